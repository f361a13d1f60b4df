import PyProof.Rows.All
import HandS.ForMost
import HandS.ForExc
import HandS.Wide
import HandS.Deep
import HandS.TupMul
import HandS.TupAny
import HandS.IsInst
import HandS.SortInts
import HandS.Flow
import HandS.Defaults
import HandS.Ends
import HandS.HeadEnd
import HandS.Zip
import HandS.Rev
import HandS.NoneIn
import HandS.Words
import KE.DataMinMax
import HandS.SortKw
import HandS.Style
import HandS.Conv
import KE.KDictZip
import KE.KTurns
import HandS.ListItems
import HandS.WideBits
import HandS.RevRange
import HandS.MakeKwOnly
import HandS.More
import PyProof.Draws
import PyProof.LongRange
import HandS.MakeKw
import HandS.CallSlots
import HandS.ExcOwn
import KE.KUnpackStar
import HandS.ExcInit
import HandS.TryOnly
import HandS.ExcIs
import HandS.ExcField
import KE.KExcIs
import OpenK.KOps
import PyProof.Rows.IntBool
import KE.SortData
import KE.GoesMore
import KE.KTupSum
import HandS.SetFor
import HandS.Strs
import HandS.HeadHook1
import HandS.HeadHook2
import HandS.Exc
import PyProof.EqAt
import KE.DataFind
import PyProof.NeKinds
import HandS.Head0
import HandS.Head1
import HandS.Head2
import PySem.Challenge.RW_tierfall_k12_entries_logs_tiers
set_option Elab.async false
set_option linter.all false
set_option maxRecDepth 100000
set_option maxHeartbeats 0
/-! the whole program, run once -/
namespace DL
open PySem PySem.Spec PyProof.Rows L2
end DL
namespace DL.WF
open PySem PySem.Spec PyProof.Rows L2
def top (i : Nat) : Stmt := PySem.Challenge.pw_tierfall_k12_entries_logs_tiers.main.body.getD i (.Pass ⟨0, 0, 0, 0⟩)
abbrev s_is_integer : Stmt := top 4
abbrev s_law_bag : Stmt := top 13
abbrev s_law_take : Stmt := top 14
abbrev s_law_alike : Stmt := top 15
abbrev s_law_whole : Stmt := top 18
abbrev s_is_between : Stmt := top 5
abbrev s_law_size : Stmt := top 16
abbrev s_law_vast : Stmt := top 17
abbrev s_law_is_entry : Stmt := top 19
abbrev s_law_is_tier : Stmt := top 21
abbrev s_law_odd : Stmt := top 23
abbrev s_is_size : Stmt := top 6
abbrev s_law_is_log : Stmt := top 20
abbrev s_law_are_tiers : Stmt := top 22
abbrev s_law_bent : Stmt := top 24
abbrev s_is_entry : Stmt := top 7
abbrev s_is_tier : Stmt := top 10
abbrev s_law_deep_bent : Stmt := top 25
abbrev s_are_entries : Stmt := top 8
abbrev s_are_tiers : Stmt := top 11
abbrev s_law_things : Stmt := top 26
abbrev s_is_log : Stmt := top 9
abbrev s_law : Stmt := top 27
def dd_is_integer : He.DefD := ⟨("is_integer", none), "is_integer", "is_integer", defArgs s_is_integer, defBody s_is_integer, defScope s_is_integer, [], []⟩
def dd_law_bag : He.DefD := ⟨("_law_bag", none), "_law_bag", "_law_bag", defArgs s_law_bag, defBody s_law_bag, defScope s_law_bag, [], []⟩
def dd_law_take : He.DefD := ⟨("_law_take", none), "_law_take", "_law_take", defArgs s_law_take, defBody s_law_take, defScope s_law_take, [], []⟩
def dd_law_alike : He.DefD := ⟨("_law_alike", none), "_law_alike", "_law_alike", defArgs s_law_alike, defBody s_law_alike, defScope s_law_alike, [], []⟩
def dd_law_whole : He.DefD := ⟨("_law_whole", none), "_law_whole", "_law_whole", defArgs s_law_whole, defBody s_law_whole, defScope s_law_whole, [], []⟩
def dd_is_between : He.DefD := ⟨("is_between", none), "is_between", "is_between", defArgs s_is_between, defBody s_is_between, defScope s_is_between, [], []⟩
def dd_law_size : He.DefD := ⟨("_law_size", none), "_law_size", "_law_size", defArgs s_law_size, defBody s_law_size, defScope s_law_size, [], []⟩
def dd_law_vast : He.DefD := ⟨("_law_vast", none), "_law_vast", "_law_vast", defArgs s_law_vast, defBody s_law_vast, defScope s_law_vast, [], []⟩
def dd_law_is_entry : He.DefD := ⟨("_law_is_entry", none), "_law_is_entry", "_law_is_entry", defArgs s_law_is_entry, defBody s_law_is_entry, defScope s_law_is_entry, [], []⟩
def dd_law_is_tier : He.DefD := ⟨("_law_is_tier", none), "_law_is_tier", "_law_is_tier", defArgs s_law_is_tier, defBody s_law_is_tier, defScope s_law_is_tier, [], []⟩
def dd_law_odd : He.DefD := ⟨("_law_odd", none), "_law_odd", "_law_odd", defArgs s_law_odd, defBody s_law_odd, defScope s_law_odd, [], []⟩
def dd_is_size : He.DefD := ⟨("is_size", none), "is_size", "is_size", defArgs s_is_size, defBody s_is_size, defScope s_is_size, [], []⟩
def dd_law_is_log : He.DefD := ⟨("_law_is_log", none), "_law_is_log", "_law_is_log", defArgs s_law_is_log, defBody s_law_is_log, defScope s_law_is_log, [], []⟩
def dd_law_are_tiers : He.DefD := ⟨("_law_are_tiers", none), "_law_are_tiers", "_law_are_tiers", defArgs s_law_are_tiers, defBody s_law_are_tiers, defScope s_law_are_tiers, [], []⟩
def dd_law_bent : He.DefD := ⟨("_law_bent", none), "_law_bent", "_law_bent", defArgs s_law_bent, defBody s_law_bent, defScope s_law_bent, [], []⟩
def dd_is_entry : He.DefD := ⟨("is_entry", none), "is_entry", "is_entry", defArgs s_is_entry, defBody s_is_entry, defScope s_is_entry, [], []⟩
def dd_is_tier : He.DefD := ⟨("is_tier", none), "is_tier", "is_tier", defArgs s_is_tier, defBody s_is_tier, defScope s_is_tier, [], []⟩
def dd_law_deep_bent : He.DefD := ⟨("_law_deep_bent", none), "_law_deep_bent", "_law_deep_bent", defArgs s_law_deep_bent, defBody s_law_deep_bent, defScope s_law_deep_bent, [], []⟩
def dd_are_entries : He.DefD := ⟨("are_entries", none), "are_entries", "are_entries", defArgs s_are_entries, defBody s_are_entries, defScope s_are_entries, [], []⟩
def dd_are_tiers : He.DefD := ⟨("are_tiers", none), "are_tiers", "are_tiers", defArgs s_are_tiers, defBody s_are_tiers, defScope s_are_tiers, [], []⟩
def dd_law_things : He.DefD := ⟨("_law_things", none), "_law_things", "_law_things", defArgs s_law_things, defBody s_law_things, defScope s_law_things, [], []⟩
def dd_is_log : He.DefD := ⟨("is_log", none), "is_log", "is_log", defArgs s_is_log, defBody s_is_log, defScope s_is_log, [], []⟩
def dd_law : He.DefD := ⟨("law", none), "law", "law", defArgs s_law, defBody s_law, defScope s_law, [], []⟩
def fn : List He.DefD := [dd_is_integer, dd_law_bag, dd_law_take, dd_law_alike, dd_law_whole, dd_is_between, dd_law_size, dd_law_vast, dd_law_is_entry, dd_law_is_tier, dd_law_odd, dd_is_size, dd_law_is_log, dd_law_are_tiers, dd_law_bent, dd_is_entry, dd_is_tier, dd_law_deep_bent, dd_are_entries, dd_are_tiers, dd_law_things, dd_is_log, dd_law]
def fa : List He.Fa := [.glo "is_integer", .glo "_law_bag", .glo "_law_take", .glo "_law_alike", .glo "_law_whole", .glo "is_between", .glo "_law_size", .glo "_law_vast", .glo "_law_is_entry", .glo "_law_is_tier", .glo "_law_odd", .glo "is_size", .glo "_law_is_log", .glo "_law_are_tiers", .glo "_law_bent", .glo "is_entry", .glo "is_tier", .glo "_law_deep_bent", .glo "are_entries", .glo "are_tiers", .glo "_law_things", .glo "is_log", .glo "law", .free "abs", .free "all", .free "bool", .free "int", .free "isinstance", .free "len", .free "list", .free "range", .free "repr", .free "tuple", .int "GREATEST" 1000000000000000000, .int "MOST_ENTRIES" 400, .int "MOST_TIERS" 8]
abbrev R : PySem.W.OpenRow := PySem.W.OpenLaw.row PySem.Challenge.rw_tierfall_k12_entries_logs_tiers
abbrev hk : PySem.W.Hook := He.hookD 4 fa fn
def ob (s : PySem.W.SharedT) : He.AlD := He.obsDG 4 fa fn (HandSHeadRun.getT s)
theorem ob_eq (s : PySem.W.SharedT) : ob s = hk.obs s.abs := He.obsDG_eq (HandSHeadRun.getT_eq s)
def loose : List PySem.Str := ["GREATEST", "MOST_ENTRIES", "MOST_TIERS", "is_integer", "is_between", "is_size", "is_entry", "are_entries", "is_log", "is_tier", "are_tiers", "_law_bag", "_law_take", "_law_alike", "_law_size", "_law_vast", "_law_whole", "_law_is_entry", "_law_is_log", "_law_is_tier", "_law_are_tiers", "_law_odd", "_law_bent", "_law_deep_bent", "_law_things"]
theorem run (w : World) : HandSHeadRun.RunEq R (PySem.W.view R.prog [27]) hk ob 1920 loose w := by
  intro os
  kernel_rfl
end DL.WF
set_option Elab.async false
set_option linter.all false
set_option maxRecDepth 100000
set_option maxHeartbeats 4000000
/-! The data layer: Python's values as plain data (D), objects that may change as trees that one place owns (O). -/
namespace DL
open PySem PySem.Spec L2
inductive D where
  | non | bl (b : Bool) | int (i : Int) | str (s : Str)
  | tup (ds : List D) | lst (ds : List D) | dct (kvs : List (Key × D)) | ins (c : Str) (fs : List (Str × D)) | ty (n : String)
  | scr (ns : List Int) | exv (a : Addr) (d : Option Addr) (fs : List (Str × D))
inductive O where
  | pur (d : D) | lst (os : List O) | tup (os : List O) | dct (kvs : List (Key × O)) | ins (c : Str) (fs : List (Str × O))
  /-- an instance whose own place is frozen, its fields may be owned -/
  | shl (c : Str) (fs : List (Str × O))
structure G where
  K : PySem.W.Frag
  mg : Str → Option Value
abbrev AP := Addr → Prop
/-- a written tuple of the module -/
def KT (K : PySem.W.Frag) (a : Addr) (xs : List V) : Prop :=
  ∃ (o : Obj) (its : Array Value) (n : Nat), K.lookup a = some o ∧ o.cls = .type "tuple" ∧ o.data = .seq its n ∧ its.size ≤ sizeLine ∧ Vals xs its.toList
/-- the script: known to the object, or a list of the module -/
def ScrAt (K : PySem.W.Frag) (F : AP) (H : Hp) (a : Addr) (xs : List V) : Prop := (F a ∧ ∃ ob, H a = some (.frz ob (.lst xs))) ∨
  ∃ (o : Obj) (its : Array Value) (n : Nat), K.lookup a = some o ∧ o.cls = .type "list" ∧ o.dict = none ∧ o.data = .seq its n ∧ its.size ≤ sizeLine ∧ Vals xs its.toList
theorem ScrAt.sq {K : PySem.W.Frag} {F : AP} {H : Hp} {a : Addr} {vs : List V} (h : ScrAt K F H a vs) : SqL K H a vs := h.elim (fun ⟨_, ob, q⟩ => .inl (.inr ⟨ob, q⟩)) .inr
def TupAt (K : PySem.W.Frag) (F : AP) (H : Hp) (a : Addr) (vs : List V) : Prop := (F a ∧ H a = some (.tup vs)) ∨ KT K a vs
theorem TupAt.sq {K : PySem.W.Frag} {F : AP} {H : Hp} {a : Addr} {vs : List V} (h : TupAt K F H a vs) : SqT K H a vs := h.elim (fun q => .inl (.inl q.2)) .inr
mutual
def Rp (g : G) (F : AP) (H : Hp) : D → V → Prop
  | .non, v => v = .non
  | .bl b, v => v = .bl b
  | .int i, v => v = .int i
  | .str s, v => v = .str s
  | .ty s, v => v = .ty s
  | .scr ns, v => ∃ a, v = .ref a ∧ ScrAt g.K F H a (ns.map .int)
  | .exv a d fs, v => v = .ref a ∧ ((d = none ∧ fs = []) ∨ ∃ b vs, d = some b ∧ F b ∧ H b = some (.xd vs) ∧ RpF g F H fs vs)
  | .tup ds, v => ∃ a vs, v = .ref a ∧ TupAt g.K F H a vs ∧ Rps g F H ds vs
  | .lst ds, v => ∃ a vs, v = .ref a ∧ F a ∧ H a = some (.lst vs) ∧ Rps g F H ds vs
  | .dct kvs, v => ∃ a vs, v = .ref a ∧ F a ∧ H a = some (.dK vs) ∧ RpK g F H kvs vs
  | .ins c fs, v => ∃ a C dx vs, v = .ref a ∧ F a ∧ H a = some (.ins C dx vs) ∧ g.mg c = some (.ref C) ∧ RpF g F H fs vs
def Rps (g : G) (F : AP) (H : Hp) : List D → List V → Prop
  | [], vs => vs = []
  | d :: ds, vs => ∃ v r, vs = v :: r ∧ Rp g F H d v ∧ Rps g F H ds r
def RpK (g : G) (F : AP) (H : Hp) : List (Key × D) → List (Key × V) → Prop
  | [], vs => vs = []
  | (k, d) :: ds, vs => ∃ v r, vs = (k, v) :: r ∧ Rp g F H d v ∧ RpK g F H ds r
def RpF (g : G) (F : AP) (H : Hp) : List (Str × D) → List (Str × V) → Prop
  | [], vs => vs = []
  | (k, d) :: ds, vs => ∃ v r, vs = (k, v) :: r ∧ Rp g F H d v ∧ RpF g F H ds r
end
mutual
def RpO (g : G) (F : AP) (H : Hp) : O → List Addr → V → Prop
  | .pur d, fp, v => fp = [] ∧ Rp g F H d v
  | .tup os, fp, v => ∃ a vs, v = .ref a ∧ TupAt g.K F H a vs ∧ RpOs g F H os fp vs
  | .lst os, fp, v => ∃ a vs r, v = .ref a ∧ H a = some (.lst vs) ∧ RpOs g F H os r vs ∧ fp = a :: r
  | .dct kvs, fp, v => ∃ a vs r, v = .ref a ∧ H a = some (.dK vs) ∧ RpOK g F H kvs r vs ∧ fp = a :: r
  | .ins c fs, fp, v => ∃ a C dx vs r, v = .ref a ∧ H a = some (.ins C dx vs) ∧ g.mg c = some (.ref C) ∧ RpOF g F H fs r vs ∧ fp = a :: r
  | .shl c fs, fp, v => ∃ a C dx vs, v = .ref a ∧ F a ∧ H a = some (.ins C dx vs) ∧ g.mg c = some (.ref C) ∧ RpOF g F H fs fp vs
def RpOs (g : G) (F : AP) (H : Hp) : List O → List Addr → List V → Prop
  | [], fp, vs => fp = [] ∧ vs = []
  | o :: os, fp, vs => ∃ v r f1 f2, vs = v :: r ∧ fp = f1 ++ f2 ∧ RpO g F H o f1 v ∧ RpOs g F H os f2 r
def RpOK (g : G) (F : AP) (H : Hp) : List (Key × O) → List Addr → List (Key × V) → Prop
  | [], fp, vs => fp = [] ∧ vs = []
  | (k, o) :: os, fp, vs => ∃ v r f1 f2, vs = (k, v) :: r ∧ fp = f1 ++ f2 ∧ RpO g F H o f1 v ∧ RpOK g F H os f2 r
def RpOF (g : G) (F : AP) (H : Hp) : List (Str × O) → List Addr → List (Str × V) → Prop
  | [], fp, vs => fp = [] ∧ vs = []
  | (k, o) :: os, fp, vs => ∃ v r f1 f2, vs = (k, v) :: r ∧ fp = f1 ++ f2 ∧ RpO g F H o f1 v ∧ RpOF g F H os f2 r
end
mutual
def O.fz : O → D
  | .pur d => d
  | .tup os => .tup (fzs os)
  | .lst os => .lst (fzs os)
  | .dct os => .dct (fzK os)
  | .ins c os => .ins c (fzF os)
  | .shl c os => .ins c (fzF os)
def fzs : List O → List D
  | [] => []
  | o :: os => o.fz :: fzs os
def fzK : List (Key × O) → List (Key × D)
  | [] => []
  | (k, o) :: os => (k, o.fz) :: fzK os
def fzF : List (Str × O) → List (Str × D)
  | [] => []
  | (k, o) :: os => (k, o.fz) :: fzF os
end
section
variable {g : G} {F F' : AP} {H H' : Hp}
theorem TupAt.mono {a : Addr} {vs : List V} (h : ∀ a, F a → F' a ∧ H' a = H a) (t : TupAt g.K F H a vs) : TupAt g.K F' H' a vs := by
  rcases t with ⟨f, e⟩ | k
  · obtain ⟨f', e'⟩ := h a f
    exact .inl ⟨f', e'.trans e⟩
  · exact .inr k
mutual
theorem Rp.mono (h : ∀ a, F a → F' a ∧ H' a = H a) : ∀ (d : D) (v : V), Rp g F H d v → Rp g F' H' d v
  | .non, v, r => by simpa [Rp] using r
  | .bl b, v, r => by simpa [Rp] using r
  | .int i, v, r => by simpa [Rp] using r
  | .str s, v, r => by simpa [Rp] using r
  | .ty s, v, r => by simpa [Rp] using r
  | .exv a d fs, v, r => by
    simp only [Rp] at r ⊢
    obtain ⟨e, r⟩ := r
    refine ⟨e, r.imp id ?_⟩
    rintro ⟨b, vs, e, f, t, q⟩
    obtain ⟨f', e'⟩ := h b f
    exact ⟨b, vs, e, f', e'.trans t, RpF.mono h fs vs q⟩
  | .scr ns, v, r => by
    simp only [Rp] at r ⊢
    obtain ⟨a, e, t⟩ := r
    refine ⟨a, e, t.imp (fun ⟨f, ob, q⟩ => ?_) id⟩
    obtain ⟨f', e'⟩ := h a f
    exact ⟨f', ob, e'.trans q⟩
  | .tup ds, v, r => by
    simp only [Rp] at r ⊢
    obtain ⟨a, vs, e, t, q⟩ := r
    exact ⟨a, vs, e, t.mono h, Rps.mono h ds vs q⟩
  | .lst ds, v, r => by
    simp only [Rp] at r ⊢
    obtain ⟨a, vs, e, f, t, q⟩ := r
    obtain ⟨f', e'⟩ := h a f
    exact ⟨a, vs, e, f', e'.trans t, Rps.mono h ds vs q⟩
  | .dct ds, v, r => by
    simp only [Rp] at r ⊢
    obtain ⟨a, vs, e, f, t, q⟩ := r
    obtain ⟨f', e'⟩ := h a f
    exact ⟨a, vs, e, f', e'.trans t, RpK.mono h ds vs q⟩
  | .ins c ds, v, r => by
    simp only [Rp] at r ⊢
    obtain ⟨a, C, dx, vs, e, f, t, m, q⟩ := r
    obtain ⟨f', e'⟩ := h a f
    exact ⟨a, C, dx, vs, e, f', e'.trans t, m, RpF.mono h ds vs q⟩
theorem Rps.mono (h : ∀ a, F a → F' a ∧ H' a = H a) : ∀ (ds : List D) (vs : List V), Rps g F H ds vs → Rps g F' H' ds vs
  | [], vs, r => by simpa [Rps] using r
  | d :: ds, vs, r => by
    simp only [Rps] at r ⊢
    obtain ⟨v, q, e, r1, r2⟩ := r
    exact ⟨v, q, e, Rp.mono h d v r1, Rps.mono h ds q r2⟩
theorem RpK.mono (h : ∀ a, F a → F' a ∧ H' a = H a) : ∀ (ds : List (Key × D)) (vs : List (Key × V)), RpK g F H ds vs → RpK g F' H' ds vs
  | [], vs, r => by simpa [RpK] using r
  | (k, d) :: ds, vs, r => by
    simp only [RpK] at r ⊢
    obtain ⟨v, q, e, r1, r2⟩ := r
    exact ⟨v, q, e, Rp.mono h d v r1, RpK.mono h ds q r2⟩
theorem RpF.mono (h : ∀ a, F a → F' a ∧ H' a = H a) : ∀ (ds : List (Str × D)) (vs : List (Str × V)), RpF g F H ds vs → RpF g F' H' ds vs
  | [], vs, r => by simpa [RpF] using r
  | (k, d) :: ds, vs, r => by
    simp only [RpF] at r ⊢
    obtain ⟨v, q, e, r1, r2⟩ := r
    exact ⟨v, q, e, Rp.mono h d v r1, RpF.mono h ds q r2⟩
end
mutual
theorem RpO.mono (h : ∀ a, F a → F' a ∧ H' a = H a) : ∀ (o : O) (fp : List Addr) (v : V), (∀ a ∈ fp, H' a = H a) → RpO g F H o fp v → RpO g F' H' o fp v
  | .pur d, fp, v, k, r => by
    simp only [RpO] at r ⊢
    exact ⟨r.1, Rp.mono h d v r.2⟩
  | .tup os, fp, v, k, r => by
    simp only [RpO] at r ⊢
    obtain ⟨a, vs, e, t, q⟩ := r
    exact ⟨a, vs, e, t.mono h, RpOs.mono h os fp vs k q⟩
  | .lst os, fp, v, k, r => by
    simp only [RpO] at r ⊢
    obtain ⟨a, vs, q, e, t, r1, rfl⟩ := r
    exact ⟨a, vs, q, e, (k a (by simp)).trans t, RpOs.mono h os q vs (fun b hb => k b (by simp [hb])) r1, rfl⟩
  | .dct os, fp, v, k, r => by
    simp only [RpO] at r ⊢
    obtain ⟨a, vs, q, e, t, r1, rfl⟩ := r
    exact ⟨a, vs, q, e, (k a (by simp)).trans t, RpOK.mono h os q vs (fun b hb => k b (by simp [hb])) r1, rfl⟩
  | .ins c os, fp, v, k, r => by
    simp only [RpO] at r ⊢
    obtain ⟨a, C, dx, vs, q, e, t, m, r1, rfl⟩ := r
    exact ⟨a, C, dx, vs, q, e, (k a (by simp)).trans t, m, RpOF.mono h os q vs (fun b hb => k b (by simp [hb])) r1, rfl⟩
  | .shl c os, fp, v, k, r => by
    simp only [RpO] at r ⊢
    obtain ⟨a, C, dx, vs, e, f, t, m, r1⟩ := r
    obtain ⟨f', e'⟩ := h a f
    exact ⟨a, C, dx, vs, e, f', e'.trans t, m, RpOF.mono h os fp vs k r1⟩
theorem RpOs.mono (h : ∀ a, F a → F' a ∧ H' a = H a) : ∀ (os : List O) (fp : List Addr) (vs : List V), (∀ a ∈ fp, H' a = H a) → RpOs g F H os fp vs → RpOs g F' H' os fp vs
  | [], fp, vs, k, r => by simpa [RpOs] using r
  | o :: os, fp, vs, k, r => by
    simp only [RpOs] at r ⊢
    obtain ⟨v, q, f1, f2, e, rfl, r1, r2⟩ := r
    exact ⟨v, q, f1, f2, e, rfl, RpO.mono h o f1 v (fun b hb => k b (by simp [hb])) r1, RpOs.mono h os f2 q (fun b hb => k b (by simp [hb])) r2⟩
theorem RpOK.mono (h : ∀ a, F a → F' a ∧ H' a = H a) : ∀ (os : List (Key × O)) (fp : List Addr) (vs : List (Key × V)), (∀ a ∈ fp, H' a = H a) → RpOK g F H os fp vs → RpOK g F' H' os fp vs
  | [], fp, vs, k, r => by simpa [RpOK] using r
  | (key, o) :: os, fp, vs, k, r => by
    simp only [RpOK] at r ⊢
    obtain ⟨v, q, f1, f2, e, rfl, r1, r2⟩ := r
    exact ⟨v, q, f1, f2, e, rfl, RpO.mono h o f1 v (fun b hb => k b (by simp [hb])) r1, RpOK.mono h os f2 q (fun b hb => k b (by simp [hb])) r2⟩
theorem RpOF.mono (h : ∀ a, F a → F' a ∧ H' a = H a) : ∀ (os : List (Str × O)) (fp : List Addr) (vs : List (Str × V)), (∀ a ∈ fp, H' a = H a) → RpOF g F H os fp vs → RpOF g F' H' os fp vs
  | [], fp, vs, k, r => by simpa [RpOF] using r
  | (key, o) :: os, fp, vs, k, r => by
    simp only [RpOF] at r ⊢
    obtain ⟨v, q, f1, f2, e, rfl, r1, r2⟩ := r
    exact ⟨v, q, f1, f2, e, rfl, RpO.mono h o f1 v (fun b hb => k b (by simp [hb])) r1, RpOF.mono h os f2 q (fun b hb => k b (by simp [hb])) r2⟩
end
/-! frozen: what an owned tree is, as data, when its places are no more changed -/
mutual
theorem RpO.frz (h : ∀ a, F a → F' a) : ∀ (o : O) (fp : List Addr) (v : V), (∀ a ∈ fp, F' a) → RpO g F H o fp v → Rp g F' H o.fz v
  | .pur d, fp, v, k, r => by
    simp only [RpO] at r
    exact Rp.mono (fun a fa => ⟨h a fa, rfl⟩) d v r.2
  | .tup os, fp, v, k, r => by
    simp only [RpO] at r
    simp only [O.fz, Rp]
    obtain ⟨a, vs, e, t, q⟩ := r
    exact ⟨a, vs, e, t.mono (fun a fa => ⟨h a fa, rfl⟩), RpOs.frz h os fp vs k q⟩
  | .lst os, fp, v, k, r => by
    simp only [RpO] at r
    simp only [O.fz, Rp]
    obtain ⟨a, vs, q, e, t, r1, rfl⟩ := r
    exact ⟨a, vs, e, k a (by simp), t, RpOs.frz h os q vs (fun b hb => k b (by simp [hb])) r1⟩
  | .dct os, fp, v, k, r => by
    simp only [RpO] at r
    simp only [O.fz, Rp]
    obtain ⟨a, vs, q, e, t, r1, rfl⟩ := r
    exact ⟨a, vs, e, k a (by simp), t, RpOK.frz h os q vs (fun b hb => k b (by simp [hb])) r1⟩
  | .ins c os, fp, v, k, r => by
    simp only [RpO] at r
    simp only [O.fz, Rp]
    obtain ⟨a, C, dx, vs, q, e, t, m, r1, rfl⟩ := r
    exact ⟨a, C, dx, vs, e, k a (by simp), t, m, RpOF.frz h os q vs (fun b hb => k b (by simp [hb])) r1⟩
  | .shl c os, fp, v, k, r => by
    simp only [RpO] at r
    simp only [O.fz, Rp]
    obtain ⟨a, C, dx, vs, e, f, t, m, r1⟩ := r
    exact ⟨a, C, dx, vs, e, h a f, t, m, RpOF.frz h os fp vs k r1⟩
theorem RpOs.frz (h : ∀ a, F a → F' a) : ∀ (os : List O) (fp : List Addr) (vs : List V), (∀ a ∈ fp, F' a) → RpOs g F H os fp vs → Rps g F' H (fzs os) vs
  | [], fp, vs, k, r => by simp only [RpOs] at r; simp only [fzs, Rps]; exact r.2
  | o :: os, fp, vs, k, r => by
    simp only [RpOs] at r
    simp only [fzs, Rps]
    obtain ⟨v, q, f1, f2, e, rfl, r1, r2⟩ := r
    exact ⟨v, q, e, RpO.frz h o f1 v (fun b hb => k b (by simp [hb])) r1, RpOs.frz h os f2 q (fun b hb => k b (by simp [hb])) r2⟩
theorem RpOK.frz (h : ∀ a, F a → F' a) : ∀ (os : List (Key × O)) (fp : List Addr) (vs : List (Key × V)), (∀ a ∈ fp, F' a) → RpOK g F H os fp vs → RpK g F' H (fzK os) vs
  | [], fp, vs, k, r => by simp only [RpOK] at r; simp only [fzK, RpK]; exact r.2
  | (key, o) :: os, fp, vs, k, r => by
    simp only [RpOK] at r
    simp only [fzK, RpK]
    obtain ⟨v, q, f1, f2, e, rfl, r1, r2⟩ := r
    exact ⟨v, q, e, RpO.frz h o f1 v (fun b hb => k b (by simp [hb])) r1, RpOK.frz h os f2 q (fun b hb => k b (by simp [hb])) r2⟩
theorem RpOF.frz (h : ∀ a, F a → F' a) : ∀ (os : List (Str × O)) (fp : List Addr) (vs : List (Str × V)), (∀ a ∈ fp, F' a) → RpOF g F H os fp vs → RpF g F' H (fzF os) vs
  | [], fp, vs, k, r => by simp only [RpOF] at r; simp only [fzF, RpF]; exact r.2
  | (key, o) :: os, fp, vs, k, r => by
    simp only [RpOF] at r
    simp only [fzF, RpF]
    obtain ⟨v, q, f1, f2, e, rfl, r1, r2⟩ := r
    exact ⟨v, q, e, RpO.frz h o f1 v (fun b hb => k b (by simp [hb])) r1, RpOF.frz h os f2 q (fun b hb => k b (by simp [hb])) r2⟩
end
end
/-! ### worlds -/
structure Wd (F : AP) (H : Hp) (fps : List Addr) : Prop where
  nd : fps.Nodup
  own : ∀ a ∈ fps, H a ≠ none ∧ ¬ F a
  fro : ∀ a, F a → H a ≠ none
structure Ext (F : AP) (H : Hp) (fps : List Addr) (F' : AP) (H' : Hp) (fps' : List Addr) : Prop where
  fF : ∀ a, F a → F' a
  keep : ∀ a, H a ≠ none → a ∉ fps → H' a = H a
  dom : ∀ a, H a ≠ none → H' a ≠ none
  own : ∀ a ∈ fps', a ∈ fps ∨ H a = none
  newF : ∀ a, F' a → F a ∨ a ∈ fps ∨ H a = none
section
variable {g : G} {F F' F1 F2 F3 : AP} {H H' H1 H2 H3 : Hp} {fps fps' f1 f2 f3 : List Addr}
theorem Ext.refl : Ext F H fps F H fps := ⟨fun _ h => h, fun _ _ _ => rfl, fun _ h => h, fun _ h => .inl h, fun _ h => .inl h⟩
theorem Ext.trans (a : Ext F1 H1 f1 F2 H2 f2) (b : Ext F2 H2 f2 F3 H3 f3) : Ext F1 H1 f1 F3 H3 f3 where
  fF := fun x h => b.fF x (a.fF x h)
  keep := fun x h n => by
    have h2 := a.keep x h n
    rw [b.keep x (a.dom x h) (fun m => (a.own x m).elim n h), h2]
  dom := fun x h => b.dom x (a.dom x h)
  own := fun x h => by
    rcases b.own x h with m | m
    · exact a.own x m
    · by_cases q : H1 x = none
      · exact .inr q
      · exact absurd m (a.dom x q)
  newF := fun x h => by
    rcases b.newF x h with m | m | m
    · exact a.newF x m
    · exact .inr (a.own x m)
    · by_cases q : H1 x = none
      · exact .inr (.inr q)
      · exact absurd m (a.dom x q)
/-- fewer places are told of -/
theorem Ext.sub (a : Ext F1 H1 f1 F2 H2 f2) (h : ∀ x ∈ f3, x ∈ f2) : Ext F1 H1 f1 F2 H2 f3 := ⟨a.fF, a.keep, a.dom, fun x m => a.own x (h x m), a.newF⟩
theorem Wd.sub (a : Wd F H f1) (nd : f2.Nodup) (h : ∀ x ∈ f2, x ∈ f1) : Wd F H f2 := ⟨nd, fun x m => a.own x (h x m), a.fro⟩
theorem Wd.left (a : Wd F H (f1 ++ f2)) : Wd F H f1 := a.sub (List.nodup_append.mp a.nd).1 fun x m => List.mem_append_left _ m
theorem Wd.right (a : Wd F H (f1 ++ f2)) : Wd F H f2 := a.sub (List.nodup_append.mp a.nd).2.1 fun x m => List.mem_append_right _ m
theorem Ext.frozen (e : Ext F H fps F' H' fps') (w : Wd F H fps) : ∀ a, F a → F' a ∧ H' a = H a := fun a h => ⟨e.fF a h, e.keep a (w.fro a h) fun m => (w.own a m).2 h⟩
/-- what stands beside: places that the step does not know -/
theorem Ext.beside (e : Ext F H f1 F' H' f2) (w : Wd F H (f1 ++ f3)) (w' : Wd F' H' f2) : Wd F' H' (f2 ++ f3) ∧ (∀ a ∈ f3, H' a = H a) := by
  have nd := List.nodup_append.mp w.nd
  have st : ∀ a ∈ f3, H' a = H a := fun a m => e.keep a (w.own a (List.mem_append_right _ m)).1 fun q => nd.2.2 a q a m rfl
  refine ⟨⟨List.nodup_append.mpr ⟨w'.nd, nd.2.1, fun a ma b mb => ?_⟩, fun a m => ?_, w'.fro⟩, st⟩
  · rintro rfl
    rcases e.own a ma with q | q
    · exact nd.2.2 a q a mb rfl
    · exact (w.own a (List.mem_append_right _ mb)).1 q
  · rcases List.mem_append.mp m with q | q
    · exact w'.own a q
    · have h1 := w.own a (List.mem_append_right _ q)
      refine ⟨by rw [st a q]; exact h1.1, fun q2 => ?_⟩
      rcases e.newF a q2 with z | z | z
      · exact h1.2 z
      · exact nd.2.2 a z a q rfl
      · exact h1.1 z
theorem Ext.wide (e : Ext F H f1 F' H' f2) : Ext F H (f1 ++ f3) F' H' (f2 ++ f3) where
  fF := e.fF
  keep := fun a h n => e.keep a h fun m => n (List.mem_append_left _ m)
  dom := e.dom
  own := fun a m => by
    rcases List.mem_append.mp m with q | q
    · rcases e.own a q with z | z
      · exact .inl (List.mem_append_left _ z)
      · exact .inr z
    · exact .inl (List.mem_append_right _ q)
  newF := fun a h => by
    rcases e.newF a h with z | z | z
    · exact .inl z
    · exact .inr (.inl (List.mem_append_left _ z))
    · exact .inr (.inr z)
/-- places are frozen -/
def frzF (F : AP) (f : List Addr) : AP := fun a => F a ∨ a ∈ f
theorem Wd.frz (w : Wd F H (f1 ++ f2)) : Wd (frzF F f2) H f1 := by
  have nd := List.nodup_append.mp w.nd
  refine ⟨nd.1, fun a m => ⟨(w.own a (List.mem_append_left _ m)).1, fun q => ?_⟩, fun a q => ?_⟩
  · rcases q with q | q
    · exact (w.own a (List.mem_append_left _ m)).2 q
    · exact nd.2.2 a m a q rfl
  · rcases q with q | q
    · exact w.fro a q
    · exact (w.own a (List.mem_append_right _ q)).1
theorem Ext.frz : Ext F H (f1 ++ f2) (frzF F f2) H f1 := ⟨fun _ h => .inl h, fun _ _ _ => rfl, fun _ h => h, fun a m => .inl (List.mem_append_left _ m), fun a h => h.elim .inl fun m => .inr (.inl (List.mem_append_right _ m))⟩
end
/-! ### the frame's slots -/
abbrev Env := List (Option O)
def EnvR (g : G) (F : AP) (H : Hp) : Env → List Addr → St → Prop
  | [], fp, σ => fp = [] ∧ σ = []
  | none :: r, fp, σ => ∃ x s, σ = x :: s ∧ EnvR g F H r fp s
  | some o :: r, fp, σ => ∃ v s f1 f2, σ = some v :: s ∧ fp = f1 ++ f2 ∧ RpO g F H o f1 v ∧ EnvR g F H r f2 s
section
variable {g : G} {F F' : AP} {H H' : Hp}
theorem EnvR.mono (h : ∀ a, F a → F' a ∧ H' a = H a) : ∀ {ρ : Env} {fp : List Addr} {σ : St}, (∀ a ∈ fp, H' a = H a) → EnvR g F H ρ fp σ → EnvR g F' H' ρ fp σ
  | [], fp, σ, k, r => by simpa [EnvR] using r
  | none :: ρ, fp, σ, k, r => by
    simp only [EnvR] at r ⊢
    obtain ⟨x, s, e, q⟩ := r
    exact ⟨x, s, e, EnvR.mono h k q⟩
  | some o :: ρ, fp, σ, k, r => by
    simp only [EnvR] at r ⊢
    obtain ⟨v, s, f1, f2, e, rfl, r1, r2⟩ := r
    exact ⟨v, s, f1, f2, e, rfl, RpO.mono h o f1 v (fun b hb => k b (by simp [hb])) r1, EnvR.mono h (fun b hb => k b (by simp [hb])) r2⟩
theorem EnvR.length : ∀ {ρ : Env} {fp : List Addr} {σ : St}, EnvR g F H ρ fp σ → ρ.length = σ.length
  | [], fp, σ, r => by simp only [EnvR] at r; rw [r.2]; rfl
  | none :: ρ, fp, σ, r => by
    simp only [EnvR] at r
    obtain ⟨x, s, rfl, q⟩ := r
    simp [EnvR.length q]
  | some o :: ρ, fp, σ, r => by
    simp only [EnvR] at r
    obtain ⟨v, s, f1, f2, rfl, rfl, r1, r2⟩ := r
    simp [EnvR.length r2]
/-- any slot is put anew, in a world that keeps the rest; what it held falls away -/
theorem EnvR.put {g : G} {F : AP} {H : Hp} : ∀ {ρ : Env} {fp : List Addr} {σ : St} (i : Nat), EnvR g F H ρ fp σ → i < ρ.length →
    ∃ pre f post, fp = pre ++ (f ++ post) ∧ (∀ o, ρ[i]? = some (some o) → ∃ v, σ[i]? = some (some v) ∧ RpO g F H o f v) ∧
      (∀ (F' : AP) (H' : Hp), (∀ a, F a → F' a ∧ H' a = H a) → (∀ a ∈ pre ++ post, H' a = H a) → (∀ x, EnvR g F' H' (ρ.set i none) (pre ++ post) (σ.set i x)) ∧
        (∀ o' f' v', RpO g F' H' o' f' v' → EnvR g F' H' (ρ.set i (some o')) (pre ++ (f' ++ post)) (σ.set i (some v'))))
  | [], fp, σ, i, r, e => by simp at e
  | none :: ρ, fp, σ, 0, r, e => by
    simp only [EnvR] at r
    obtain ⟨x, s, rfl, q⟩ := r
    refine ⟨[], [], fp, rfl, fun o h => by simp at h, fun F' H' m k => ?_⟩
    have q' := q.mono m k
    refine ⟨fun x => ?_, fun o' f' v' r' => ?_⟩
    · simp only [List.set_cons_zero, EnvR, List.nil_append]
      exact ⟨x, s, rfl, q'⟩
    · simp only [List.set_cons_zero, EnvR, List.nil_append]
      exact ⟨v', s, f', fp, rfl, rfl, r', q'⟩
  | some o' :: ρ, fp, σ, 0, r, e => by
    simp only [EnvR] at r
    obtain ⟨v, s, f1, f2, rfl, rfl, r1, r2⟩ := r
    refine ⟨[], f1, f2, rfl, fun o h => by simp at h; subst h; exact ⟨v, rfl, r1⟩, fun F' H' m k => ?_⟩
    have q' := r2.mono m k
    refine ⟨fun x => ?_, fun o' f' v' r' => ?_⟩
    · simp only [List.set_cons_zero, EnvR, List.nil_append]
      exact ⟨x, s, rfl, q'⟩
    · simp only [List.set_cons_zero, EnvR, List.nil_append]
      exact ⟨v', s, f', f2, rfl, rfl, r', q'⟩
  | none :: ρ, fp, σ, i + 1, r, e => by
    simp only [EnvR] at r
    obtain ⟨x, s, rfl, q⟩ := r
    obtain ⟨pre, f, post, rfl, k1, k2⟩ := EnvR.put i q (by simpa using e)
    refine ⟨pre, f, post, rfl, fun o h => k1 o (by simpa using h), fun F' H' m k => ?_⟩
    obtain ⟨k3, k4⟩ := k2 F' H' m k
    refine ⟨fun y => ?_, fun o' f' v' r' => ?_⟩
    · simp only [List.set_cons_succ, EnvR]
      exact ⟨x, _, rfl, k3 y⟩
    · simp only [List.set_cons_succ, EnvR]
      exact ⟨x, _, rfl, k4 o' f' v' r'⟩
  | some o1 :: ρ, fp, σ, i + 1, r, e => by
    simp only [EnvR] at r
    obtain ⟨w, s, g1, g2, rfl, rfl, q1, q⟩ := r
    obtain ⟨pre, f, post, rfl, k1, k2⟩ := EnvR.put i q (by simpa using e)
    refine ⟨g1 ++ pre, f, post, by simp, fun o h => k1 o (by simpa using h), fun F' H' m k => ?_⟩
    obtain ⟨k3, k4⟩ := k2 F' H' m fun a h => k a (by simp only [List.mem_append] at h ⊢; rcases h with h | h <;> simp [h])
    have q1' := RpO.mono m o1 g1 w (fun a h => k a (by simp [h])) q1
    refine ⟨fun y => ?_, fun o' f' v' r' => ?_⟩
    · simp only [List.set_cons_succ, EnvR]
      exact ⟨w, _, g1, pre ++ post, rfl, by simp, q1', k3 y⟩
    · simp only [List.set_cons_succ, EnvR]
      exact ⟨w, _, g1, pre ++ (f' ++ post), rfl, by simp, q1', k4 o' f' v' r'⟩
theorem EnvR.at {g : G} {F : AP} {H : Hp} {ρ : Env} {fp : List Addr} {σ : St} {i : Nat} {o : O} (r : EnvR g F H ρ fp σ) (e : ρ[i]? = some (some o)) :
    ∃ v pre f post, σ[i]? = some (some v) ∧ fp = pre ++ (f ++ post) ∧ RpO g F H o f v ∧
      (∀ (F' : AP) (H' : Hp), (∀ a, F a → F' a ∧ H' a = H a) → (∀ a ∈ pre ++ post, H' a = H a) → (∀ x, EnvR g F' H' (ρ.set i none) (pre ++ post) (σ.set i x)) ∧
        (∀ o' f' v', RpO g F' H' o' f' v' → EnvR g F' H' (ρ.set i (some o')) (pre ++ (f' ++ post)) (σ.set i (some v')))) := by
  have hi : i < ρ.length := (List.getElem?_eq_some_iff.mp e).1
  obtain ⟨pre, f, post, h1, h2, h3⟩ := r.put i hi
  obtain ⟨v, h4, h5⟩ := h2 o e
  exact ⟨v, pre, f, post, h4, h1, h5, h3⟩
theorem perm_mid (a b c : List Addr) : (a ++ (b ++ c)).Perm ((a ++ c) ++ b) := by
  rw [List.append_assoc]
  exact List.Perm.append_left a List.perm_append_comm
theorem Wd.perm {F : AP} {H : Hp} {a b : List Addr} (w : Wd F H a) (p : a.Perm b) : Wd F H b := w.sub (p.nodup_iff.mp w.nd) fun _ m => p.mem_iff.mpr m
theorem Ext.perm {F F' : AP} {H H' : Hp} {a b c : List Addr} (x : Ext F H a F' H' b) (p : b.Perm c) : Ext F H a F' H' c := x.sub fun _ m => p.mem_iff.mpr m
theorem Ext.permL {F F' : AP} {H H' : Hp} {a b c : List Addr} (x : Ext F H a F' H' b) (p : a.Perm c) : Ext F H c F' H' b where
  fF := x.fF
  keep := fun q h n => x.keep q h fun m => n (p.mem_iff.mp m)
  dom := x.dom
  own := fun q m => (x.own q m).elim (fun z => .inl (p.mem_iff.mp z)) .inr
  newF := fun q m => (x.newF q m).elim .inl fun z => z.elim (fun y => .inr (.inl (p.mem_iff.mp y))) fun y => .inr (.inr y)
end
end DL
set_option Elab.async false
set_option linter.all false
set_option maxRecDepth 100000
set_option maxHeartbeats 4000000
/-! The data layer: readings by combinators, expressions. -/
namespace DL
open PySem PySem.Spec L2
abbrev M (α : Type) := Env → Option (α × Env)
abbrev gx (X : Cx) : G := ⟨X.K, X.mg⟩
def bnd {α β : Type} (f : M α) (k : α → M β) : M β := fun ρ => match f ρ with
  | some (a, ρ1) => k a ρ1
  | none => none
def ret {α : Type} (a : α) : M α := fun ρ => some (a, ρ)
def opt {α : Type} (o : Option α) : M α := fun ρ => match o with
  | some a => some (a, ρ)
  | none => none
section
variable {α β : Type}
theorem bnd_some {f : M α} {k : α → M β} {ρ ρ2 : Env} {b : β} : bnd f k ρ = some (b, ρ2) ↔ ∃ a ρ1, f ρ = some (a, ρ1) ∧ k a ρ1 = some (b, ρ2) := by
  unfold bnd
  cases h : f ρ with
  | none => simp
  | some p =>
    obtain ⟨a, ρ1⟩ := p
    simp only [Option.some.injEq, Prod.mk.injEq]
    constructor
    · intro h; exact ⟨a, ρ1, ⟨rfl, rfl⟩, h⟩
    · rintro ⟨a', r', ⟨rfl, rfl⟩, h⟩; exact h
theorem opt_some {o : Option α} {ρ ρ' : Env} {a : α} : opt o ρ = some (a, ρ') ↔ o = some a ∧ ρ' = ρ := by
  unfold opt
  cases o with
  | none => simp
  | some p => simp; intro _; exact eq_comm
theorem ret_some {ρ ρ' : Env} {a b : α} : ret a ρ = some (b, ρ') ↔ b = a ∧ ρ' = ρ := by
  unfold ret; simp; constructor <;> (rintro ⟨rfl, rfl⟩; exact ⟨rfl, rfl⟩)
end
/-! ### readings -/
def tD (g : G) (f : M D) : TE := fun σ H Q => ∃ F ρ fps d ρ', EnvR g F H ρ fps σ ∧ Wd F H fps ∧ f ρ = some (d, ρ') ∧
  ∀ F' H' fps' v, Ext F H fps F' H' fps' → EnvR g F' H' ρ' fps' σ → Wd F' H' fps' → Rp g F' H' d v → Q v H'
def tE (g : G) (f : M O) : TE := fun σ H Q => ∃ F ρ fps o ρ', EnvR g F H ρ fps σ ∧ Wd F H fps ∧ f ρ = some (o, ρ') ∧
  ∀ F' H' fps' fp v, Ext F H fps F' H' (fps' ++ fp) → EnvR g F' H' ρ' fps' σ → Wd F' H' (fps' ++ fp) → RpO g F' H' o fp v → Q v H'
def tA (g : G) (f : M (List D)) : TA := fun σ H Q => ∃ F ρ fps d ρ', EnvR g F H ρ fps σ ∧ Wd F H fps ∧ f ρ = some (d, ρ') ∧
  ∀ F' H' fps' v, Ext F H fps F' H' fps' → EnvR g F' H' ρ' fps' σ → Wd F' H' fps' → Rps g F' H' d v → Q v H'
def tT (g : G) (f : M Bool) : TT := fun σ H Q => ∃ F ρ fps b ρ', EnvR g F H ρ fps σ ∧ Wd F H fps ∧ f ρ = some (b, ρ') ∧
  ∀ F' H' fps', Ext F H fps F' H' fps' → EnvR g F' H' ρ' fps' σ → Wd F' H' fps' → Q b H'
section
variable {X : Cx} {e : Expr} {es : List Expr}
theorem _root_.L2.PE.impD {t t' : TE} (h : PE X e t) (i : ∀ {σ H Q}, t' σ H Q → t σ H Q) : PE X e t' := ⟨fun p s σ H Q I q => h.run p s σ H Q I (i q)⟩
theorem _root_.L2.PT.impD {t t' : TT} (h : PT X e t) (i : ∀ {σ H Q}, t' σ H Q → t σ H Q) : PT X e t' := ⟨fun p s σ H Q I q => h.run p s σ H Q I (i q)⟩
theorem _root_.L2.PW.impD {t t' : TT} (h : PW X e t) (i : ∀ {σ H Q}, t' σ H Q → t σ H Q) : PW X e t' := ⟨fun wh p s σ H Q I q => h.run wh p s σ H Q I (i q)⟩
theorem _root_.L2.PTs.impD {t t' : TT} (h : PTs X es t) (i : ∀ {σ H Q}, t' σ H Q → t σ H Q) : PTs X es t' := ⟨fun p s σ H Q I q => h.run p s σ H Q I (i q)⟩
theorem _root_.L2.PA.impD {t t' : TA} (h : PA X es t) (i : ∀ {σ H Q}, t' σ H Q → t σ H Q) : PA X es t' := ⟨fun pos p s σ H Q I q => h.run pos p s σ H Q I (i q)⟩
theorem _root_.L2.PS.impD {st : Stmt} {t t' : TS} (h : PS X st t) (i : ∀ {D σ H}, t' D σ H → t D σ H) : PS X st t' := ⟨fun p s σ H D I q => h.run p s σ H D I (i q)⟩
theorem _root_.L2.PSs.impD {st : List Stmt} {t t' : TS} (h : PSs X st t) (i : ∀ {D σ H}, t' D σ H → t D σ H) : PSs X st t' := ⟨fun p s σ H D I q => h.run p s σ H D I (i q)⟩
theorem _root_.L2.PI.impD {tg iter : Expr} {t t' : TI} (h : PI X tg iter t) (i : ∀ {σ H R}, t' σ H R → t σ H R) : PI X tg iter t' := ⟨fun p s σ H Q I q => h.run p s σ H Q I (i q)⟩
theorem _root_.L2.PG.impD {tg : Expr} {t t' : TG} (h : PG X tg t) (i : ∀ {v σ H Q}, t' v σ H Q → t v σ H Q) : PG X tg t' := ⟨fun p s σ H v u Q I r q => h.run p s σ H v u Q I r (i q)⟩
theorem _root_.L2.PGs.impD {tg : List Expr} {t t' : TGs} (h : PGs X tg t) (i : ∀ {v σ H Q}, t' v σ H Q → t v σ H Q) : PGs X tg t' := ⟨fun p s σ H v u Q I r q => h.run p s σ H v u Q I r (i q)⟩
end
/-! ### objects that are only made -/
structure New (F : AP) (H : Hp) (F' : AP) (H' : Hp) : Prop where
  fF : ∀ a, F a → F' a
  keep : ∀ a, H a ≠ none → H' a = H a
  newF : ∀ a, F' a → F a ∨ H a = none
  fro : ∀ a, F' a → H' a ≠ none
section
variable {g : G} {F F' F1 F2 : AP} {H H' H1 H2 : Hp} {fps : List Addr} {ρ : Env} {σ : St}
theorem New.refl (h : ∀ a, F a → H a ≠ none) : New F H F H := ⟨fun _ h => h, fun _ _ => rfl, fun _ h => .inl h, h⟩
theorem New.trans (a : New F H F1 H1) (b : New F1 H1 F2 H2) : New F H F2 H2 where
  fF := fun x h => b.fF x (a.fF x h)
  keep := fun x h => by rw [b.keep x (by rw [a.keep x h]; exact h), a.keep x h]
  newF := fun x h => by
    rcases b.newF x h with z | z
    · exact a.newF x z
    · by_cases q : H x = none
      · exact .inr q
      · rw [a.keep x q] at z; exact absurd z q
  fro := b.fro
theorem New.frozen (n : New F H F' H') (fr : ∀ a, F a → H a ≠ none) : ∀ a, F a → F' a ∧ H' a = H a := fun a h => ⟨n.fF a h, n.keep a (fr a h)⟩
theorem New.go (n : New F H F' H') (e : EnvR g F H ρ fps σ) (w : Wd F H fps) : Ext F H fps F' H' fps ∧ EnvR g F' H' ρ fps σ ∧ Wd F' H' fps := by
  refine ⟨⟨n.fF, fun a h _ => n.keep a h, fun a h => by rw [n.keep a h]; exact h, fun a m => .inl m, fun a h => (n.newF a h).elim .inl fun z => .inr (.inr z)⟩,
    e.mono (n.frozen w.fro) (fun a m => n.keep a (w.own a m).1), ⟨w.nd, fun a m => ⟨by rw [n.keep a (w.own a m).1]; exact (w.own a m).1, fun q => ?_⟩, n.fro⟩⟩
  rcases n.newF a q with z | z
  · exact (w.own a m).2 z
  · exact (w.own a m).1 z
/-- a new object that is frozen at once -/
theorem New.laid {p : Addr} {o : HO} (fr : ∀ a, F a → H a ≠ none) (hp : H p = none) : New F H (fun a => F a ∨ a = p) (upd H p o) where
  fF := fun _ h => .inl h
  keep := fun a h => upd_ne (fun z => h (z ▸ hp))
  newF := fun a h => h.elim .inl fun z => .inr (z ▸ hp)
  fro := fun a h => by
    by_cases q : a = p
    · subst q; rw [upd_same]; simp
    · rw [upd_ne q]
      exact fr a (h.elim id fun z => absurd z q)
end
/-! ### lists of data -/
section
variable {g : G} {F F' : AP} {H H' : Hp}
theorem Rps.append : ∀ {a b : List D} {x y : List V}, Rps g F H a x → Rps g F H b y → Rps g F H (a ++ b) (x ++ y)
  | [], b, x, y, h, k => by simp only [Rps] at h; subst h; exact k
  | d :: a, b, x, y, h, k => by
    simp only [Rps] at h
    obtain ⟨v, r, rfl, h1, h2⟩ := h
    exact ⟨v, r ++ y, rfl, h1, Rps.append h2 k⟩
theorem Rps.length : ∀ {a : List D} {x : List V}, Rps g F H a x → a.length = x.length
  | [], x, h => by simp only [Rps] at h; subst h; rfl
  | d :: a, x, h => by
    simp only [Rps] at h
    obtain ⟨v, r, rfl, h1, h2⟩ := h
    simp [Rps.length h2]
theorem Rps.get : ∀ {a : List D} {x : List V} {i : Nat} {d : D}, Rps g F H a x → a[i]? = some d → ∃ v, x[i]? = some v ∧ Rp g F H d v
  | [], x, i, d, h, k => by simp at k
  | e :: a, x, 0, d, h, k => by
    simp only [Rps] at h
    obtain ⟨v, r, rfl, h1, h2⟩ := h
    simp at k; subst k
    exact ⟨v, rfl, h1⟩
  | e :: a, x, i + 1, d, h, k => by
    simp only [Rps] at h
    obtain ⟨v, r, rfl, h1, h2⟩ := h
    exact Rps.get (i := i) h2 (by simpa using k)
theorem Rps.drop : ∀ {a : List D} {x : List V} (n : Nat), Rps g F H a x → Rps g F H (a.drop n) (x.drop n)
  | a, x, 0, h => h
  | [], x, n + 1, h => by simp only [Rps] at h; subst h; simp [Rps]
  | d :: a, x, n + 1, h => by
    simp only [Rps] at h
    obtain ⟨v, r, rfl, h1, h2⟩ := h
    exact Rps.drop n h2
theorem Rps.take : ∀ {a : List D} {x : List V} (n : Nat), Rps g F H a x → Rps g F H (a.take n) (x.take n)
  | a, x, 0, h => by simp [Rps]
  | [], x, n + 1, h => by simp only [Rps] at h; subst h; simp [Rps]
  | d :: a, x, n + 1, h => by
    simp only [Rps] at h
    obtain ⟨v, r, rfl, h1, h2⟩ := h
    exact ⟨v, r.take n, rfl, h1, Rps.take n h2⟩
theorem Rps.reverse : ∀ {a : List D} {x : List V}, Rps g F H a x → Rps g F H a.reverse x.reverse
  | [], x, h => by simp only [Rps] at h; subst h; simp [Rps]
  | d :: a, x, h => by
    simp only [Rps] at h
    obtain ⟨v, r, rfl, h1, h2⟩ := h
    rw [List.reverse_cons, List.reverse_cons]
    exact Rps.append (Rps.reverse h2) ⟨v, [], rfl, h1, rfl⟩
theorem Rps.flat {a : List D} {x : List V} (h : Rps g F H a x) : ∀ n : Nat, Rps g F H (List.replicate n a).flatten (List.replicate n x).flatten
  | 0 => by simp [Rps]
  | n + 1 => by
    rw [List.replicate_succ, List.replicate_succ, List.flatten_cons, List.flatten_cons]
    exact Rps.append h (Rps.flat h n)
theorem Rps.nil {x : List V} : Rps g F H [] x ↔ x = [] := by simp only [Rps]
theorem Rps.one {d : D} {x : List V} : Rps g F H [d] x ↔ ∃ v, x = [v] ∧ Rp g F H d v := by
  simp only [Rps]
  constructor
  · rintro ⟨v, r, rfl, h, rfl⟩; exact ⟨v, rfl, h⟩
  · rintro ⟨v, rfl, h⟩; exact ⟨v, [], rfl, h, rfl⟩
theorem Rps.two {d e : D} {x : List V} : Rps g F H [d, e] x ↔ ∃ v u, x = [v, u] ∧ Rp g F H d v ∧ Rp g F H e u := by
  simp only [Rps]
  constructor
  · rintro ⟨v, r, rfl, h, u, r', rfl, h', rfl⟩; exact ⟨v, u, rfl, h, h'⟩
  · rintro ⟨v, u, rfl, h, h'⟩; exact ⟨v, [u], rfl, h, u, [], rfl, h', rfl⟩
theorem Rps.of_ints : ∀ {ns : List Int}, Rps g F H (ns.map D.int) (ns.map V.int)
  | [] => by simp [Rps]
  | n :: ns => by simp only [List.map_cons, Rps, Rp]; exact ⟨_, _, rfl, rfl, Rps.of_ints⟩
theorem Rps.bls : ∀ {ns : List Bool} {x : List V}, Rps g F H (ns.map D.bl) x → x = ns.map V.bl
  | [], x, h => by simp only [List.map_nil, Rps] at h; subst h; rfl
  | n :: ns, x, h => by
    simp only [List.map_cons, Rps, Rp] at h
    obtain ⟨v, r, rfl, rfl, h2⟩ := h
    rw [Rps.bls h2]; rfl
end
/-! ### leaves -/
def dVar (i : Nat) : M D := fun ρ => match ρ[i]? with
  | some (some (.pur d)) => some (d, ρ)
  | _ => none
def dC (d : D) : M D := ret d
/-- taken out of its slot -/
def eMove (i : Nat) : M O := fun ρ => match ρ[i]? with
  | some (some o) => some (o, ρ.set i none)
  | _ => none
def fzM (f : M O) : M D := bnd f fun o => ret o.fz
def purM (f : M D) : M O := bnd f fun d => ret (.pur d)
section
variable {X : Cx} {e : Expr}
theorem set_same {α : Type} : ∀ {l : List α} {i : Nat} {x : α}, l[i]? = some x → l.set i x = l
  | [], i, x, h => by simp at h
  | a :: l, 0, x, h => by simp at h; subst h; rfl
  | a :: l, i + 1, x, h => by rw [List.set_cons_succ, set_same (by simpa using h)]
theorem d_var {i : Nat} (h : PE X e (tVar i)) : PE X e (tD (gx X) (dVar i)) := h.impD fun {σ H Q} ⟨F, ρ, fps, d, ρ', en, w, hf, q⟩ => by
  unfold dVar at hf
  split at hf
  · rename_i d' hd
    cases hf
    obtain ⟨v, pre, f, post, hs, _, r, _⟩ := en.at hd
    simp only [RpO] at r
    exact ⟨v, hs, q F H fps v .refl en w r.2⟩
  · cases hf
theorem d_const {v : V} {d : D} (h : PE X e (tC v)) (r : ∀ F H, Rp (gx X) F H d v) : PE X e (tD (gx X) (dC d)) := h.impD fun {σ H Q} ⟨F, ρ, fps, d', ρ', en, w, hf, q⟩ => by
  obtain ⟨rfl, rfl⟩ := ret_some.mp hf
  exact q F H fps v .refl en w (r F H)
theorem d_int {i : Int} (h : PE X e (tC (.int i))) : PE X e (tD (gx X) (dC (.int i))) := d_const h fun _ _ => by simp [Rp]
theorem d_bl {i : Bool} (h : PE X e (tC (.bl i))) : PE X e (tD (gx X) (dC (.bl i))) := d_const h fun _ _ => by simp [Rp]
theorem d_non (h : PE X e (tC .non)) : PE X e (tD (gx X) (dC .non)) := d_const h fun _ _ => by simp [Rp]
theorem d_str {i : Str} (h : PE X e (tC (.str i))) : PE X e (tD (gx X) (dC (.str i))) := d_const h fun _ _ => by simp [Rp]
theorem d_of {f : M O} (h : PE X e (tE (gx X) f)) : PE X e (tD (gx X) (fzM f)) := h.impD fun {σ H Q} ⟨F, ρ, fps, d, ρ', en, w, hf, q⟩ => by
  obtain ⟨o, ρ1, h1, h2⟩ := bnd_some.mp hf
  obtain ⟨rfl, rfl⟩ := ret_some.mp h2
  refine ⟨F, ρ, fps, o, _, en, w, h1, fun F1 H1 p1 fp v x1 e1 w1 r1 => ?_⟩
  refine q (frzF F1 fp) H1 p1 v (x1.trans Ext.frz) (e1.mono (fun a h => ⟨.inl h, rfl⟩) fun _ _ => rfl) w1.frz (RpO.frz (fun a h => Or.inl h) o fp v (fun a m => Or.inr m) r1)
theorem e_of {f : M D} (h : PE X e (tD (gx X) f)) : PE X e (tE (gx X) (purM f)) := h.impD fun {σ H Q} ⟨F, ρ, fps, d, ρ', en, w, hf, q⟩ => by
  obtain ⟨o, ρ1, h1, h2⟩ := bnd_some.mp hf
  obtain ⟨rfl, rfl⟩ := ret_some.mp h2
  refine ⟨F, ρ, fps, o, _, en, w, h1, fun F1 H1 p1 v x1 e1 w1 r1 => ?_⟩
  exact q F1 H1 p1 [] v (by rw [List.append_nil]; exact x1) e1 (by rw [List.append_nil]; exact w1) (by simp only [RpO]; exact ⟨by simp, r1⟩)
end
end DL
set_option Elab.async false
set_option linter.all false
set_option maxRecDepth 100000
set_option maxHeartbeats 4000000
/-! The data layer: operators. -/
namespace DL
open PySem PySem.Spec L2
def OpD (g : G) (r : R2) (op : D → D → Option D) : Prop := ∀ (F : AP) (H : Hp) (x y : V) (dx dy d : D) (Q : VK), (∀ a, F a → H a ≠ none) → Rp g F H dx x → Rp g F H dy y → op dx dy = some d →
  (∀ F' H' v, New F H F' H' → Rp g F' H' d v → Q v H') → r x y H Q
def dOp2 (op : D → D → Option D) (fa fb : M D) : M D := bnd fa fun x => bnd fb fun y => opt (op x y)
def asB : D → Option Bool
  | .bl b => some b
  | _ => none
def tOp2 (op : D → D → Option D) (fa fb : M D) : M Bool := bnd fa fun x => bnd fb fun y => opt ((op x y).bind asB)
section
variable {g : G} {r : R2} {op : D → D → Option D} {fa fb : M D} {σ : St} {H : Hp} {Q : VK}
theorem rd_op2 (hr : OpD g r op) (h : tD g (dOp2 op fa fb) σ H Q) : tOp r (tD g fa) (tD g fb) σ H Q := by
  obtain ⟨F, ρ, fps, d, ρ', e, w, hf, q⟩ := h
  obtain ⟨x, ρ1, h1, h2⟩ := bnd_some.mp hf
  obtain ⟨y, ρ2, h2, h3⟩ := bnd_some.mp h2
  obtain ⟨h4, rfl⟩ := opt_some.mp h3
  refine ⟨F, ρ, fps, x, ρ1, e, w, h1, fun F1 H1 p1 v1 x1 e1 w1 r1 => ⟨F1, ρ1, p1, y, _, e1, w1, h2, fun F2 H2 p2 v2 x2 e2 w2 r2 => ?_⟩⟩
  refine hr F2 H2 v1 v2 x y d Q w2.fro (Rp.mono (x2.frozen w1) _ _ r1) r2 h4 fun F3 H3 v n r => ?_
  obtain ⟨x3, e3, w3⟩ := n.go e2 w2
  exact q F3 H3 p2 v ((x1.trans x2).trans x3) e3 w3 r
theorem rd_top2 {Q : Bool → Hp → Prop} (hr : OpD g r op) (h : tT g (tOp2 op fa fb) σ H Q) : tTest (tOp r (tD g fa) (tD g fb)) σ H Q := by
  obtain ⟨F, ρ, fps, d, ρ', e, w, hf, q⟩ := h
  obtain ⟨x, ρ1, h1, h2⟩ := bnd_some.mp hf
  obtain ⟨y, ρ2, h2, h3⟩ := bnd_some.mp h2
  obtain ⟨h6, rfl⟩ := opt_some.mp h3
  obtain ⟨z, h4, h5⟩ := Option.bind_eq_some_iff.mp h6
  have ez : z = D.bl d := by cases z <;> simp_all [asB]
  subst ez
  refine ⟨F, ρ, fps, x, ρ1, e, w, h1, fun F1 H1 p1 v1 x1 e1 w1 r1 => ⟨F1, ρ1, p1, y, _, e1, w1, h2, fun F2 H2 p2 v2 x2 e2 w2 r2 => ?_⟩⟩
  refine hr F2 H2 v1 v2 x y _ _ w2.fro (Rp.mono (x2.frozen w1) _ _ r1) r2 h4 fun F3 H3 v n r => ?_
  obtain ⟨x3, e3, w3⟩ := n.go e2 w2
  exact ⟨d, by simpa [Rp] using r, q F3 H3 p2 ((x1.trans x2).trans x3) e3 w3⟩
end
section
variable {X : Cx} {a b c : Expr} {fa fb fc : M D} {pos : Pos} {r r' : R2}
theorem d_bin {op : Operator} {f} (ho : OpR X (binaryOp op) r) (hr : OpD (gx X) r f) (ha : PE X a (tD (gx X) fa)) (hb : PE X b (tD (gx X) fb)) : PE X (.BinOp a op b pos) (tD (gx X) (dOp2 f fa fb)) := (pe_op ho ha hb).impD (rd_op2 hr)
theorem d_cmpG {op : CmpOp} {f} (ho : OpR X (compareOp op) r) (hr : OpD (gx X) r f) (ha : PE X a (tD (gx X) fa)) (hb : PE X b (tD (gx X) fb)) (hm : behindInMarks op b = false) : PE X (.Compare a [op] [b] pos) (tD (gx X) (dOp2 f fa fb)) := (pe_cmpR ho ha hb hm).impD (rd_op2 hr)
theorem t_cmpG {op : CmpOp} {f} (ho : OpR X (compareOp op) r) (hr : OpD (gx X) r f) (ha : PE X a (tD (gx X) fa)) (hb : PE X b (tD (gx X) fb)) (hm : behindInMarks op b = false) : PT X (.Compare a [op] [b] pos) (tT (gx X) (tOp2 f fa fb)) := (pt_cmpR ho ha hb hm).impD (rd_top2 hr)
end
/-! ### new lists and tuples -/
section
variable {g : G} {F : AP} {H : Hp} {p : Addr} {ds : List D} {vs : List V}
theorem New.lst (fr : ∀ a, F a → H a ≠ none) (hp : H p = none) (r : Rps g F H ds vs) : Rp g (fun a => F a ∨ a = p) (upd H p (.lst vs)) (.lst ds) (.ref p) := by
  simp only [Rp]
  exact ⟨p, vs, rfl, .inr rfl, upd_same, Rps.mono ((New.laid fr hp).frozen fr) ds vs r⟩
theorem New.tup (fr : ∀ a, F a → H a ≠ none) (hp : H p = none) (r : Rps g F H ds vs) : Rp g (fun a => F a ∨ a = p) (upd H p (.tup vs)) (.tup ds) (.ref p) := by
  simp only [Rp]
  exact ⟨p, vs, rfl, .inl ⟨.inr rfl, upd_same⟩, Rps.mono ((New.laid fr hp).frozen fr) ds vs r⟩
end
/-! ### arithmetic -/
def addD : D → D → Option D
  | .int a, .int b => some (.int (a + b))
  | .str a, .str b => if a.length + b.length ≤ sizeLine then some (.str (a ++ b)) else none
  | .lst a, .lst b => if a.length + b.length ≤ sizeLine then some (.lst (a ++ b)) else none
  | .tup a, .tup b => if a.length + b.length ≤ sizeLine then some (.tup (a ++ b)) else none
  | _, _ => none
def rAddAll (K : PySem.W.Frag) : R2 := fun x y H Q => (rI0 (fun i j => .int (i + j)) x y H Q) ∨ ((fun x y H Q => ∃ i j, x = .str i ∧ y = .str j ∧ i.length + j.length ≤ sizeLine ∧ Q (.str (i ++ j)) H : R2) x y H Q ∨ (rCat x y H Q ∨ rCatA K x y H Q))
theorem op_addAll {X : Cx} : OpR X (binaryOp .Add) (rAddAll X.K) := op_add.or (op_add_str.or (op_cat.or op_catA))
theorem od_add {g : G} : OpD g (rAddAll g.K) addD := by
  intro F H x y dx dy d Q fr rx ry e q
  unfold addD at e
  split at e
  · cases e
    simp only [Rp] at rx ry
    subst rx ry
    exact .inl ⟨_, _, rfl, rfl, q F H _ (.refl fr) (by simp [Rp])⟩
  · split at e
    · cases e
      simp only [Rp] at rx ry
      subst rx ry
      exact .inr (.inl ⟨_, _, rfl, rfl, ‹_›, q F H _ (.refl fr) (by simp [Rp])⟩)
    · cases e
  · split at e
    · cases e
      simp only [Rp] at rx ry
      obtain ⟨p, vs, rfl, f1, h1, k1⟩ := rx
      obtain ⟨p2, us, rfl, f2, h2, k2⟩ := ry
      exact .inr (.inr (.inl ⟨_, _, _, _, rfl, rfl, h1, h2, by rw [← k1.length, ← k2.length]; assumption, fun p hp => q _ _ _ (New.laid fr hp) (New.lst fr hp (k1.append k2))⟩))
    · cases e
  · split at e
    · rename_i hh
      cases e
      simp only [Rp] at rx ry
      obtain ⟨p, vs, rfl, t1, k1⟩ := rx
      obtain ⟨p2, us, rfl, t2, k2⟩ := ry
      refine .inr (.inr (.inr ⟨_, _, _, _, rfl, rfl, t1.sq, t2.sq, by rw [← k1.length, ← k2.length]; exact hh, fun z => ?_, fun z0 z => ?_, fun z0 z p hp => ?_⟩))
      · subst z
        have := k1.length
        simp at this
        subst this
        refine q F H _ (.refl fr) ?_
        rw [List.nil_append]
        simp only [Rp]
        exact ⟨p2, us, rfl, t2, k2⟩
      · subst z
        have := k2.length
        simp at this
        subst this
        refine q F H _ (.refl fr) ?_
        rw [List.append_nil]
        simp only [Rp]
        exact ⟨p, vs, rfl, t1, k1⟩
      · exact q _ _ _ (New.laid fr hp) (New.tup fr hp (k1.append k2))
    · cases e
  · cases e
def intOp (C : Int → Int → Bool) (f : Int → Int → D) : D → D → Option D
  | .int a, .int b => if C a b = true then some (f a b) else none
  | _, _ => none
theorem od_int {g : G} {C : Int → Int → Prop} {C' : Int → Int → Bool} {gV : Int → Int → V} {f : Int → Int → D} (hc : ∀ i j, C' i j = true → C i j) (hf : ∀ F H i j, Rp g F H (f i j) (gV i j)) : OpD g (rI C gV) (intOp C' f) := by
  intro F H x y dx dy d Q fr rx ry e q
  unfold intOp at e
  split at e
  · split at e
    · cases e
      simp only [Rp] at rx ry
      subst rx ry
      exact ⟨_, _, rfl, rfl, hc _ _ ‹_›, q F H _ (.refl fr) (hf F H _ _)⟩
    · cases e
  · cases e
theorem od_int0 {g : G} {gV : Int → Int → V} {f : Int → Int → D} (hf : ∀ F H i j, Rp g F H (f i j) (gV i j)) : OpD g (rI0 gV) (intOp (fun _ _ => true) f) := by
  intro F H x y dx dy d Q fr rx ry e q
  unfold intOp at e
  split at e
  · simp at e
    subst e
    simp only [Rp] at rx ry
    subst rx ry
    exact ⟨_, _, rfl, rfl, q F H _ (.refl fr) (hf F H _ _)⟩
  · cases e
def subD := intOp (fun _ _ => true) fun i j => .int (i - j)
def mulOk (i j : Int) : Bool := decide ((-(2 ^ 64) < i ∧ i < 2 ^ 64) ∨ (-(2 ^ 64) < j ∧ j < 2 ^ 64) ∨ i.natAbs.log2 + j.natAbs.log2 < 1000000)
def divOk (_ j : Int) : Bool := decide (0 < j ∧ j.natAbs.log2 < 9000)
def modOk (_ j : Int) : Bool := decide (0 < j)
def powOk (i j : Int) : Bool := decide (0 ≤ j ∧ j ≤ 1000000 ∧ i.natAbs < 2 ^ 64)
theorem mulOk_ok {i j : Int} (h : mulOk i j = true) : CMul i j ∨ CMulW i j := by
  have h2 := of_decide_eq_true (p := (-(2 ^ 64) < i ∧ i < 2 ^ 64) ∨ (-(2 ^ 64) < j ∧ j < 2 ^ 64) ∨ i.natAbs.log2 + j.natAbs.log2 < 1000000) h
  rcases h2 with h2 | h2 | h2
  · exact .inl (.inl h2)
  · exact .inl (.inr h2)
  · exact .inr h2
theorem divOk_ok {i j : Int} (h : divOk i j = true) : CDivW i j := of_decide_eq_true (p := 0 < j ∧ j.natAbs.log2 < 9000) h
theorem modOk_ok {i j : Int} (h : modOk i j = true) : 0 < j := of_decide_eq_true (p := 0 < j) h
theorem powOk_ok {i j : Int} (h : powOk i j = true) : CPow i j := of_decide_eq_true (p := 0 ≤ j ∧ j ≤ 1000000 ∧ i.natAbs < 2 ^ 64) h
def divD := intOp divOk fun i j => .int (i / j)
def modD := intOp modOk fun i j => .int (i % j)
def powD := intOp powOk fun i j => .int (i ^ j.toNat)
/-- *, also of a list and of a tuple -/
def mulD : D → D → Option D
  | .int a, .int b => if mulOk a b = true then some (.int (a * b)) else none
  | .lst a, .int k => if -(2 ^ 63) ≤ k ∧ k < 2 ^ 63 ∧ a.length * k.toNat ≤ sizeLine then some (.lst (List.replicate k.toNat a).flatten) else none
  | .tup a, .int k => if k = 1 then some (.tup a) else if a.isEmpty = false ∧ 2 ≤ k ∧ k ≤ 1000 ∧ a.length ≤ 1000 then some (.tup (List.replicate k.toNat a).flatten) else none
  | _, _ => none
/-! a tuple, once: the tuple itself -/
theorem tup_one (p : Addr) (vs : Array Value) (n : Nat) (di : Option Addr) (fl : Array (Option Value)) (u : Tok) :
    Meets (Builtin.«tuple.__mul__» ⟨[.ref p, .int 1 u], []⟩) (fun _ R s => s.heap.get? p = some { cls := .type "tuple", dict := di, data := .seq vs n, slots := fl } ∧ R (.ok (.ret (Value.ref p))) s) :=
  .of_wp fun pr wo A R s h => by
    obtain ⟨h1, g, d, t1, os⟩ := s
    obtain ⟨hl, h⟩ := h
    have ix := AutoSeq1.idx_int
    have b0 : (decide ((1 : Int) < -(2 ^ 63)) || decide ((1 : Int) ≥ 2 ^ 63)) = false := by decide
    have b1 : (vs.isEmpty || (1 : Int) == 1) = true := by simp
    wp_walk using wpAny_loadPart' hl
    repeat (first
      | (refine wpAny_ite_false (decide_eq_false (by rw [b0]; simp)) ?_; wp_walk using wpAny_loadPart' hl)
      | (refine wpAny_ite_true (decide_eq_true (by rw [b1])) ?_; wp_walk using wpAny_loadPart' hl))
    all_goals exact ⟨_, rfl, h⟩
def rOnce (K : PySem.W.Frag) : R2 := fun x y H Q => ∃ p xs, x = .ref p ∧ y = .int 1 ∧ SqT K H p xs ∧ Q (.ref p) H
theorem op_once {X : Cx} : OpR X (binaryOp .Mult) (rOnce X.K) := by
  intro pins s σ H x y v u Q I rx ry h
  obtain ⟨p, xs, rfl, rfl, hT, q⟩ := h
  cases rx
  obtain ⟨t, rfl⟩ := ry
  obtain ⟨its, r, ⟨⟨cl, di, da, fl⟩, ho, hc, n, hd⟩, hs⟩ := I.tuple hT
  simp only at hc hd
  subst hc hd
  exact wpAny_binaryOp_repeat_ref (T := "tuple") (U := "int") (by decide) ⟨_, ho, rfl⟩ (fun s' => typeIs_int s' 1 t) noFill_tuple_mul F.fills_int_mul F.slot_int_rmul repeat_tuple F.slot_int_index.lookup
    (call_meets F.slot_int_rmul (typeIs_int s 1 t) F.entry_int_rmul (F.args_int_rmul_2 _ _) (int_rmul_tuple 1 t p its.toArray n di fl)
      ⟨ho, rfl, ⟨_, ho, rfl⟩, call_meets F.slot_tuple_mul ⟨_, ho, rfl⟩ F.entry_tuple_mul (F.args_tuple_mul_2 _ _) (tup_one p its.toArray n di fl t) ⟨ho, ⟨.ref p, H, I, rfl, q⟩⟩⟩)
def rMulAll (K : PySem.W.Frag) : R2 := fun x y H Q => (rI CMul (fun i j => .int (i * j)) x y H Q ∨ rI CMulW (fun i j => .int (i * j)) x y H Q) ∨ (rRep x y H Q ∨ (rRepT K x y H Q ∨ rOnce K x y H Q))
theorem op_mulAll {X : Cx} : OpR X (binaryOp .Mult) (rMulAll X.K) := (op_mul.or op_mulW).or (op_rep.or (op_repT.or op_once))
theorem od_mul {g : G} : OpD g (rMulAll g.K) mulD := by
  intro F H x y dx dy d Q fr rx ry e q
  unfold mulD at e
  split at e
  · split at e
    · cases e
      simp only [Rp] at rx ry
      subst rx ry
      rcases mulOk_ok ‹_› with hh | hh
      · exact .inl (.inl ⟨_, _, rfl, rfl, hh, q F H _ (.refl fr) (by simp [Rp])⟩)
      · exact .inl (.inr ⟨_, _, rfl, rfl, hh, q F H _ (.refl fr) (by simp [Rp])⟩)
    · cases e
  · split at e
    · rename_i hh
      cases e
      simp only [Rp] at rx ry
      obtain ⟨p, vs, rfl, f1, h1, k1⟩ := rx
      subst ry
      exact .inr (.inl ⟨_, _, _, rfl, rfl, h1, hh.1, hh.2.1, by rw [← k1.length]; exact hh.2.2, fun p hp => q _ _ _ (New.laid fr hp) (New.lst fr hp (k1.flat _))⟩)
    · cases e
  · split at e
    · rename_i hh
      cases e
      subst hh
      simp only [Rp] at ry
      subst ry
      have rx2 := rx
      simp only [Rp] at rx
      obtain ⟨p, vs, rfl, t1, k1⟩ := rx
      exact .inr (.inr (.inr ⟨_, _, rfl, rfl, t1.sq, q F H _ (.refl fr) rx2⟩))
    · split at e
      · rename_i hh
        cases e
        simp only [Rp] at rx ry
        obtain ⟨p, vs, rfl, t1, k1⟩ := rx
        subst ry
        refine .inr (.inr (.inl ⟨_, _, _, rfl, rfl, t1.sq, ?_, hh.2.1, hh.2.2.1, by rw [← k1.length]; exact hh.2.2.2, fun p hp => q _ _ _ (New.laid fr hp) (New.tup fr hp (k1.flat _))⟩))
        rintro rfl
        have := k1.length
        simp at this
        subst this
        simp at hh
      · cases e
  · cases e
def cmpD (f : Int → Int → Bool) := intOp (fun _ _ => true) fun i j => .bl (f i j)
def ltD := cmpD fun i j => decide (i < j)
def leD := cmpD fun i j => decide (i ≤ j)
def gtD := cmpD fun i j => decide (j < i)
def geD := cmpD fun i j => decide (j ≤ i)
/-! ### equality, membership -/
mutual
def pyOf : D → Option PyData
  | .non => some .none
  | .bl b => some (.bool b)
  | .int i => some (.int i)
  | .str s => some (.str s)
  | .tup ds => (pyOfs ds).map .tuple
  | .lst ds => (pyOfs ds).map .list
  | .dct _ => none
  | .ins _ _ => none
  | .ty _ => none
  | .scr _ => none
  | .exv _ _ _ => none
def pyOfs : List D → Option (List PyData)
  | [] => some []
  | d :: ds => (pyOf d).bind fun p => (pyOfs ds).map (p :: ·)
end
mutual
theorem Rp.dp {g : G} {F : AP} {H : Hp} : ∀ (d : D) (v : V) (p : PyData), Rp g F H d v → pyOf d = some p → Dp g.K H v p
  | .non, v, p, r, e => by simp only [Rp] at r; simp only [pyOf] at e; cases e; subst r; exact .non
  | .bl b, v, p, r, e => by simp only [Rp] at r; simp only [pyOf] at e; cases e; subst r; exact .bl b
  | .int b, v, p, r, e => by simp only [Rp] at r; simp only [pyOf] at e; cases e; subst r; exact .int b
  | .str b, v, p, r, e => by simp only [Rp] at r; simp only [pyOf] at e; cases e; subst r; exact .str b
  | .tup ds, v, p, r, e => by
    simp only [Rp] at r
    simp only [pyOf] at e
    obtain ⟨a, vs, rfl, t, q⟩ := r
    obtain ⟨ps, h1, rfl⟩ := Option.map_eq_some_iff.mp e
    exact .tup t.sq (Rps.dp ds vs ps q h1)
  | .lst ds, v, p, r, e => by
    simp only [Rp] at r
    simp only [pyOf] at e
    obtain ⟨a, vs, rfl, f, t, q⟩ := r
    obtain ⟨ps, h1, rfl⟩ := Option.map_eq_some_iff.mp e
    exact .lst (.of t) (Rps.dp ds vs ps q h1)
  | .dct _, v, p, r, e => by simp [pyOf] at e
  | .ins _ _, v, p, r, e => by simp [pyOf] at e
  | .ty _, v, p, r, e => by simp [pyOf] at e
  | .scr _, v, p, r, e => by simp [pyOf] at e
  | .exv _ _ _, v, p, r, e => by simp [pyOf] at e
theorem Rps.dp {g : G} {F : AP} {H : Hp} : ∀ (d : List D) (v : List V) (p : List PyData), Rps g F H d v → pyOfs d = some p → DpAll g.K H v p
  | [], v, p, r, e => by simp only [Rps] at r; simp only [pyOfs] at e; cases e; subst r; exact .nil
  | d :: ds, v, p, r, e => by
    simp only [Rps] at r
    simp only [pyOfs] at e
    obtain ⟨u, s, rfl, r1, r2⟩ := r
    obtain ⟨p1, h1, h2⟩ := Option.bind_eq_some_iff.mp e
    obtain ⟨ps, h3, rfl⟩ := Option.map_eq_some_iff.mp h2
    exact .cons (Rp.dp d u p1 r1 h1) (Rps.dp ds s ps r2 h3)
end
def shp (d : D) : Option PyData := (pyOf d).bind fun p => if SeqAt.shaped p = true then some p else none
theorem shp_some {d : D} {p : PyData} (h : shp d = some p) : pyOf d = some p ∧ SeqAt.shaped p = true := by
  unfold shp at h
  obtain ⟨p', h1, h2⟩ := Option.bind_eq_some_iff.mp h
  split at h2
  · cases h2; exact ⟨h1, ‹_›⟩
  · cases h2
def eqB : D → D → Option Bool
  | .str a, .str b => some (a == b)
  | x, y => (shp x).bind fun p => (shp y).map fun q => PyData.eqv p q
def eqD (x y : D) : Option D := (eqB x y).map .bl
def neD (x y : D) : Option D := (eqB x y).map fun b => .bl (!b)
theorem eqB_some {x y : D} {b : Bool} (h : eqB x y = some b) : (∃ s t, x = .str s ∧ y = .str t ∧ b = (s == t)) ∨ ∃ p q, pyOf x = some p ∧ pyOf y = some q ∧ SeqAt.shaped p = true ∧ SeqAt.shaped q = true ∧ b = PyData.eqv p q := by
  unfold eqB at h
  split at h
  · cases h; exact .inl ⟨_, _, rfl, rfl, rfl⟩
  · refine .inr ?_
    obtain ⟨p, h1, h2⟩ := Option.bind_eq_some_iff.mp h
    obtain ⟨q, h3, rfl⟩ := Option.map_eq_some_iff.mp h2
    exact ⟨p, q, (shp_some h1).1, (shp_some h3).1, (shp_some h1).2, (shp_some h3).2, rfl⟩
def rEqA (K : PySem.W.Frag) : R2 := fun x y H Q => rEq x y H Q ∨ rEqD K x y H Q
def rNeA (K : PySem.W.Frag) : R2 := fun x y H Q => rNe x y H Q ∨ rNeD K x y H Q
theorem od_eq {g : G} : OpD g (rEqA g.K) eqD := by
  intro F H x y dx dy d Q fr rx ry e q
  obtain ⟨b, h1, rfl⟩ := Option.map_eq_some_iff.mp e
  rcases eqB_some h1 with ⟨s, t, rfl, rfl, rfl⟩ | ⟨p, p2, e1, e2, s1, s2, rfl⟩
  · simp only [Rp] at rx ry
    subst rx ry
    exact .inl ⟨rfl, q F H _ (.refl fr) (by simp only [Rp, dec_str])⟩
  · exact .inr ⟨p, p2, Rp.dp _ _ _ rx e1, Rp.dp _ _ _ ry e2, s1, s2, q F H _ (.refl fr) (by simp [Rp])⟩
theorem od_ne {g : G} : OpD g (rNeA g.K) neD := by
  intro F H x y dx dy d Q fr rx ry e q
  obtain ⟨b, h1, rfl⟩ := Option.map_eq_some_iff.mp e
  rcases eqB_some h1 with ⟨s, t, rfl, rfl, rfl⟩ | ⟨p, p2, e1, e2, s1, s2, rfl⟩
  · simp only [Rp] at rx ry
    subst rx ry
    exact .inl ⟨rfl, q F H _ (.refl fr) (by simp only [Rp, dec_str])⟩
  · exact .inr ⟨p, p2, Rp.dp _ _ _ rx e1, Rp.dp _ _ _ ry e2, s1, s2, q F H _ (.refl fr) (by simp [Rp])⟩
def isNon : D → Bool
  | .non => true
  | _ => false
def isD : D → D → Option D
  | x, .non => some (.bl (isNon x))
  | _, _ => none
def isNotD : D → D → Option D
  | x, .non => some (.bl (!isNon x))
  | _, _ => none
/-- x in ys, ys a list or a tuple of plain things -/
def inB (x y : D) : Option Bool := match y with
  | .lst ds => (shp x).bind fun p => (shp (.lst ds)).bind fun _ => (pyOfs ds).map fun ps => ps.any fun z => PyData.eqv z p
  | _ => none
section
variable {X : Cx} {a b c : Expr} {fa fb fc : M D} {pos : Pos} (ha : PE X a (tD (gx X) fa)) (hb : PE X b (tD (gx X) fb))
include ha hb
theorem d_add : PE X (.BinOp a .Add b pos) (tD (gx X) (dOp2 addD fa fb)) := d_bin op_addAll od_add ha hb
theorem d_sub : PE X (.BinOp a .Sub b pos) (tD (gx X) (dOp2 subD fa fb)) := d_bin op_sub (od_int0 fun _ _ _ _ => by simp [Rp]) ha hb
theorem d_mul : PE X (.BinOp a .Mult b pos) (tD (gx X) (dOp2 mulD fa fb)) := d_bin op_mulAll od_mul ha hb
theorem d_div : PE X (.BinOp a .FloorDiv b pos) (tD (gx X) (dOp2 divD fa fb)) := d_bin op_fdivW (od_int (fun i j h => divOk_ok h) fun _ _ _ _ => by simp [Rp]) ha hb
theorem d_mod : PE X (.BinOp a .Mod b pos) (tD (gx X) (dOp2 modD fa fb)) := d_bin op_mod (od_int (fun i j h => modOk_ok h) fun _ _ _ _ => by simp [Rp]) ha hb
theorem d_pow : PE X (.BinOp a .Pow b pos) (tD (gx X) (dOp2 powD fa fb)) := d_bin op_pow (od_int (fun i j h => powOk_ok h) fun _ _ _ _ => by simp [Rp]) ha hb
theorem t_lt : PT X (.Compare a [.Lt] [b] pos) (tT (gx X) (tOp2 ltD fa fb)) := t_cmpG op_lt (od_int0 fun _ _ _ _ => by simp [Rp]) ha hb (nomark b)
theorem t_gt : PT X (.Compare a [.Gt] [b] pos) (tT (gx X) (tOp2 gtD fa fb)) := t_cmpG op_gt (od_int0 fun _ _ _ _ => by simp [Rp]) ha hb (nomark b)
theorem t_ge : PT X (.Compare a [.GtE] [b] pos) (tT (gx X) (tOp2 geD fa fb)) := t_cmpG op_ge (od_int0 fun _ _ _ _ => by simp [Rp]) ha hb (nomark b)
variable {k : Nat} (hr : Room k X.A)
include hr
theorem d_eq : PE X (.Compare a [.Eq] [b] pos) (tD (gx X) (dOp2 eqD fa fb)) := d_cmpG (op_eq.or (op_eqD hr.units)) od_eq ha hb (nomark b)
theorem t_eq : PT X (.Compare a [.Eq] [b] pos) (tT (gx X) (tOp2 eqD fa fb)) := t_cmpG (op_eq.or (op_eqD hr.units)) od_eq ha hb (nomark b)
theorem t_ne : PT X (.Compare a [.NotEq] [b] pos) (tT (gx X) (tOp2 neD fa fb)) := t_cmpG (op_ne.or (op_neD hr.units)) od_ne ha hb (nomark b)
end
end DL
set_option Elab.async false
set_option linter.all false
set_option maxRecDepth 100000
set_option maxHeartbeats 4000000
/-! The data layer: tests, arguments, displays, subscripts, slices, built-in calls. -/
namespace DL
open PySem PySem.Spec L2
/-! ### tests, and, or, not -/
def tAndM (a b : M Bool) : M Bool := bnd a fun x => if x = true then b else ret false
def tOrM (a b : M Bool) : M Bool := bnd a fun x => if x = true then ret true else b
def tNotM (a : M Bool) : M Bool := bnd a fun x => ret (!x)
def tValM (a : M D) : M Bool := bnd a fun x => opt (asB x)
def dNot (a : M D) : M D := bnd a fun x => bnd (opt (asB x)) fun c => ret (.bl (!c))
def dIf (c : M Bool) (a b : M D) : M D := bnd c fun x => if x = true then a else b
/-- truth of a value -/
def truD : D → Option Bool
  | .non => some false
  | .bl b => some b
  | .int i => some (i != 0)
  | .str y => if y.length ≤ sizeLine then some ((y.length : Int) != 0) else none
  | .lst ds => some (!ds.isEmpty)
  | .tup ds => some (!ds.isEmpty)
  | .dct ds => some (!ds.isEmpty)
  | _ => none
def dAnd (a b : M D) : M D := bnd a fun x => bnd (opt (truD x)) fun c => if c = true then b else ret x
def dOr (a b : M D) : M D := bnd a fun x => bnd (opt (truD x)) fun c => if c = true then ret x else b
theorem asB_some {d : D} {b : Bool} (h : asB d = some b) : d = .bl b := by cases d <;> simp_all [asB]
section
variable {g : G} {fa fb : M Bool} {da db : M D} {σ : St} {H : Hp} {Q : Bool → Hp → Prop} {QV : VK}
theorem rd_or (h : tT g (tOrM fa fb) σ H Q) : tOr (tT g fa) (tT g fb) σ H Q := by
  obtain ⟨F, ρ, fps, d, ρ', e, w, hf, q⟩ := h
  obtain ⟨x, ρ1, h1, h2⟩ := bnd_some.mp hf
  refine ⟨F, ρ, fps, x, ρ1, e, w, h1, fun F1 H1 p1 x1 e1 w1 => ?_⟩
  cases x with
  | false => exact ⟨F1, ρ1, p1, d, ρ', e1, w1, h2, fun F2 H2 p2 x2 e2 w2 => q F2 H2 p2 (x1.trans x2) e2 w2⟩
  | true =>
    obtain ⟨rfl, rfl⟩ := ret_some.mp h2
    exact q F1 H1 p1 x1 e1 w1
theorem rd_not (h : tT g (tNotM fa) σ H Q) : tNot (tT g fa) σ H Q := by
  obtain ⟨F, ρ, fps, d, ρ', e, w, hf, q⟩ := h
  obtain ⟨x, ρ1, h1, h2⟩ := bnd_some.mp hf
  obtain ⟨rfl, rfl⟩ := ret_some.mp h2
  exact ⟨F, ρ, fps, x, _, e, w, h1, q⟩
theorem rd_val (h : tT g (tValM da) σ H Q) : tB (tD g da) σ H Q := by
  obtain ⟨F, ρ, fps, d, ρ', e, w, hf, q⟩ := h
  obtain ⟨x, ρ1, h1, h2⟩ := bnd_some.mp hf
  obtain ⟨h3, rfl⟩ := opt_some.mp h2
  have := asB_some h3
  subst this
  exact ⟨F, ρ, fps, _, _, e, w, h1, fun F1 H1 p1 v x1 e1 w1 r1 => ⟨d, by simpa [Rp] using r1, q F1 H1 p1 x1 e1 w1⟩⟩
theorem Rps.isEmpty {F : AP} {ds : List D} {vs : List V} (r : Rps g F H ds vs) : (!vs.isEmpty) = !ds.isEmpty := by
  cases ds with
  | nil => simp only [Rps] at r; subst r; rfl
  | cons d ds => simp only [Rps] at r; obtain ⟨v, s, rfl, _⟩ := r; rfl
theorem RpK.isEmpty {F : AP} {ds : List (Key × D)} {vs : List (Key × V)} (r : RpK g F H ds vs) : (!vs.isEmpty) = !ds.isEmpty := by
  cases ds with
  | nil => simp only [RpK] at r; subst r; rfl
  | cons d ds => obtain ⟨k, d⟩ := d; simp only [RpK] at r; obtain ⟨v, s, rfl, _⟩ := r; rfl
theorem Rp.tru {F : AP} {d : D} {v : V} {b : Bool} (r : Rp g F H d v) (h : truD d = some b) : TruV g.K v H b := by
  cases d with
  | non => simp only [Rp] at r; subst r; cases h; rfl
  | bl _ => simp only [Rp] at r; subst r; cases h; rfl
  | int _ => simp only [Rp] at r; subst r; cases h; rfl
  | str y =>
    simp only [Rp] at r; subst r
    simp only [truD] at h
    split at h
    · cases h; exact ⟨‹_›, rfl⟩
    · cases h
  | ty _ => cases h
  | scr _ => cases h
  | tup ds =>
    simp only [Rp] at r
    obtain ⟨a, vs, rfl, t, k⟩ := r
    cases h
    exact .inr (.inl ⟨vs, t.sq, k.isEmpty.symm⟩)
  | lst ds =>
    simp only [Rp] at r
    obtain ⟨a, vs, rfl, _, t, k⟩ := r
    cases h
    exact .inl ⟨vs, .of t, k.isEmpty.symm⟩
  | dct ds =>
    simp only [Rp] at r
    obtain ⟨a, vs, rfl, _, t, k⟩ := r
    cases h
    exact .inr (.inr ⟨vs, t, k.isEmpty.symm⟩)
  | ins _ _ => cases h
  | exv _ _ _ => cases h
theorem rd_andT (h : tD g (dAnd da db) σ H QV) : tAndT g.K (tD g da) (tD g db) σ H QV := by
  obtain ⟨F, ρ, fps, d, ρ', e, w, hf, q⟩ := h
  obtain ⟨x, ρ1, h1, h2⟩ := bnd_some.mp hf
  obtain ⟨c, ρ2, h3, h4⟩ := bnd_some.mp h2
  obtain ⟨h5, rfl⟩ := opt_some.mp h3
  refine ⟨F, ρ, fps, _, _, e, w, h1, fun F1 H1 p1 v x1 e1 w1 r1 => ⟨c, r1.tru h5, ?_⟩⟩
  cases c with
  | true => exact ⟨F1, _, p1, d, ρ', e1, w1, h4, fun F2 H2 p2 v2 x2 e2 w2 r2 => q F2 H2 p2 v2 (x1.trans x2) e2 w2 r2⟩
  | false =>
    obtain ⟨rfl, rfl⟩ := ret_some.mp h4
    exact q F1 H1 p1 _ x1 e1 w1 r1
theorem rd_notV (h : tD g (dNot da) σ H QV) : tNotV (tD g da) σ H QV := by
  obtain ⟨F, ρ, fps, d, ρ', e, w, hf, q⟩ := h
  obtain ⟨x, ρ1, h1, h2⟩ := bnd_some.mp hf
  obtain ⟨c, ρ2, h3, h4⟩ := bnd_some.mp h2
  obtain ⟨h5, rfl⟩ := opt_some.mp h3
  have := asB_some h5
  subst this
  obtain ⟨rfl, rfl⟩ := ret_some.mp h4
  exact ⟨F, ρ, fps, _, _, e, w, h1, fun F1 H1 p1 v x1 e1 w1 r1 => ⟨c, by simpa [Rp] using r1, q F1 H1 p1 _ x1 e1 w1 (by simp [Rp])⟩⟩
theorem rd_if {fc : M Bool} (h : tD g (dIf fc da db) σ H QV) : tIf (tT g fc) (tD g da) (tD g db) σ H QV := by
  obtain ⟨F, ρ, fps, d, ρ', e, w, hf, q⟩ := h
  obtain ⟨x, ρ1, h1, h2⟩ := bnd_some.mp hf
  refine ⟨F, ρ, fps, x, ρ1, e, w, h1, fun F1 H1 p1 x1 e1 w1 => ?_⟩
  cases x with
  | true => exact ⟨F1, ρ1, p1, d, ρ', e1, w1, h2, fun F2 H2 p2 v2 x2 e2 w2 r2 => q F2 H2 p2 v2 (x1.trans x2) e2 w2 r2⟩
  | false => exact ⟨F1, ρ1, p1, d, ρ', e1, w1, h2, fun F2 H2 p2 v2 x2 e2 w2 r2 => q F2 H2 p2 v2 (x1.trans x2) e2 w2 r2⟩
end
section
variable {X : Cx} {a b c : Expr} {rest : List Expr} {fa fb fc : M Bool} {da db : M D} {pos : Pos}
theorem t_or1 (ha : PT X a (tT (gx X) fa)) : PW X (.BoolOp .Or [a] pos) (tT (gx X) fa) := pw_or1 ha
theorem t_or (ha : PT X a (tT (gx X) fa)) (hb : PW X (.BoolOp .Or (b :: rest) pos) (tT (gx X) fb)) : PW X (.BoolOp .Or (a :: b :: rest) pos) (tT (gx X) (tOrM fa fb)) := (pw_or ha hb).impD rd_or
theorem t_pw (h : PW X a (tT (gx X) fa)) : PT X a (tT (gx X) fa) := h.pt
theorem t_not (ha : PT X a (tT (gx X) fa)) : PT X (.UnaryOp .Not a pos) (tT (gx X) (tNotM fa)) := (pt_not ha).impD rd_not
theorem t_val (h : PE X a (tD (gx X) da)) (he : ∀ whole, isTrue a X.env whole = (do let v ← whole; standAt a.pos; holding [v] (truthy v)) := by intro _; rfl) : PT X a (tT (gx X) (tValM da)) := (pt_val h he).impD rd_val
theorem d_one {op} (h : PE X a (tD (gx X) da)) : PE X (.BoolOp op [a] pos) (tD (gx X) da) := pe_one h
theorem d_and (ha : PE X a (tD (gx X) da)) (hb : PE X (.BoolOp .And (b :: rest) pos) (tD (gx X) db)) : PE X (.BoolOp .And (a :: b :: rest) pos) (tD (gx X) (dAnd da db)) := (pe_andT ha hb).impD rd_andT
theorem d_not (ha : PE X a (tD (gx X) da)) : PE X (.UnaryOp .Not a pos) (tD (gx X) (dNot da)) := (pe_not ha).impD rd_notV
theorem d_if (hc : PT X c (tT (gx X) fc)) (ha : PE X a (tD (gx X) da)) (hb : PE X b (tD (gx X) db)) : PE X (.IfExp c a b pos) (tD (gx X) (dIf fc da db)) := (pe_ifExp hc ha hb).impD rd_if
end
/-! ### one operand -/
def dOp1 (op : D → Option D) (f : M D) : M D := bnd f fun x => opt (op x)
def negD : D → Option D
  | .int i => some (.int (-i))
  | _ => none
section
variable {X : Cx} {a : Expr} {fa : M D} {pos : Pos}
theorem d_neg (ha : PE X a (tD (gx X) fa)) : PE X (.UnaryOp .USub a pos) (tD (gx X) (dOp1 negD fa)) := (pe_un un_neg ha).impD fun {σ H Q} ⟨F, ρ, fps, d, ρ', e, w, hf, q⟩ => by
  obtain ⟨x, ρ1, h1, h2⟩ := bnd_some.mp hf
  obtain ⟨h3, rfl⟩ := opt_some.mp h2
  unfold negD at h3
  split at h3
  · cases h3
    exact ⟨F, ρ, fps, _, _, e, w, h1, fun F1 H1 p1 v x1 e1 w1 r1 => ⟨_, by simpa [Rp] using r1, q F1 H1 p1 _ x1 e1 w1 (by simp [Rp])⟩⟩
  · cases h3
end
/-! ### argument lists, displays -/
def aNil : M (List D) := ret []
def aCons (f : M D) (r : M (List D)) : M (List D) := bnd f fun x => bnd r fun xs => ret (x :: xs)
def dTup (f : M (List D)) : M D := bnd f fun xs => opt (if xs.length ≤ sizeLine then some (.tup xs) else none)
def dLst (f : M (List D)) : M D := bnd f fun xs => opt (if xs.length ≤ sizeLine then some (.lst xs) else none)
def CallD (g : G) (r : List V → Hp → VK → Prop) (op : List D → Option D) : Prop := ∀ (F : AP) (H : Hp) (vs : List V) (ds : List D) (d : D) (Q : VK), (∀ a, F a → H a ≠ none) → Rps g F H ds vs → op ds = some d →
  (∀ F' H' v, New F H F' H' → Rp g F' H' d v → Q v H') → r vs H Q
def dCall (op : List D → Option D) (f : M (List D)) : M D := bnd f fun xs => opt (op xs)
section
variable {g : G} {σ : St} {H : Hp} {Q : VK}
theorem rd_call {r : List V → Hp → VK → Prop} {op : List D → Option D} {f : M (List D)} (hr : CallD g r op) (h : tD g (dCall op f) σ H Q) : tA g f σ H fun vs H1 => r vs H1 Q := by
  obtain ⟨F, ρ, fps, d, ρ', e, w, hf, q⟩ := h
  obtain ⟨x, ρ1, h1, h2⟩ := bnd_some.mp hf
  obtain ⟨h3, rfl⟩ := opt_some.mp h2
  refine ⟨F, ρ, fps, _, _, e, w, h1, fun F1 H1 p1 v x1 e1 w1 r1 => hr F1 H1 v x d Q w1.fro r1 h3 fun F3 H3 v n r => ?_⟩
  obtain ⟨x3, e3, w3⟩ := n.go e1 w1
  exact q F3 H3 p1 v (x1.trans x3) e3 w3 r
end
section
variable {X : Cx} {e : Expr} {es : List Expr} {f : M D} {fs : M (List D)} {pos : Pos}
theorem a_nil : PA X [] (tA (gx X) aNil) := pa_nil.impD fun {σ H Q} ⟨F, ρ, fps, d, ρ', en, w, hf, q⟩ => by
  obtain ⟨rfl, rfl⟩ := ret_some.mp hf
  exact q F H fps [] .refl en w (by simp [Rps])
theorem a_cons (ha : PE X e (tD (gx X) f)) (hr : PA X es (tA (gx X) fs)) (hs : starEach (e :: es) X.env = (false, eval e X.env) :: starEach es X.env := by rfl) : PA X (e :: es) (tA (gx X) (aCons f fs)) := (pa_cons ha hr hs).impD fun {σ H Q} ⟨F, ρ, fps, d, ρ', en, w, hf, q⟩ => by
  obtain ⟨x, ρ1, h1, h2⟩ := bnd_some.mp hf
  obtain ⟨xs, ρ2, h3, h4⟩ := bnd_some.mp h2
  obtain ⟨rfl, rfl⟩ := ret_some.mp h4
  refine ⟨F, ρ, fps, _, _, en, w, h1, fun F1 H1 p1 v x1 e1 w1 r1 => ⟨F1, ρ1, p1, xs, _, e1, w1, h3, fun F2 H2 p2 vs x2 e2 w2 r2 => ?_⟩⟩
  exact q F2 H2 p2 (v :: vs) (x1.trans x2) e2 w2 (by simp only [Rps]; exact ⟨v, vs, rfl, Rp.mono (x2.frozen w1) _ _ r1, r2⟩)
theorem d_tup {x1} (h : PA X es (tA (gx X) fs)) : PE X (.Tuple es x1 pos) (tD (gx X) (dTup fs)) := (pe_tup h).impD fun {σ H Q} q => rd_call (g := gx X) (r := fun xs H1 Q => xs.length ≤ sizeLine ∧ ∀ p, H1 p = none → Q (.ref p) (upd H1 p (.tup xs))) (fun F H vs ds d Q fr r e q => by
  split at e
  · cases e
    exact ⟨by rw [← r.length]; assumption, fun p hp => q _ _ _ (New.laid fr hp) (New.tup fr hp r)⟩
  · cases e) q
theorem d_lst (h : PA X es (tA (gx X) fs)) : PE X (.List es pos) (tD (gx X) (dLst fs)) := (pe_lst h).impD fun {σ H Q} q => rd_call (g := gx X) (r := fun xs H1 Q => xs.length ≤ sizeLine ∧ ∀ p, H1 p = none → Q (.ref p) (upd H1 p (.lst xs))) (fun F H vs ds d Q fr r e q => by
  split at e
  · cases e
    exact ⟨by rw [← r.length]; assumption, fun p hp => q _ _ _ (New.laid fr hp) (New.lst fr hp r)⟩
  · cases e) q
/-! built-in functions and types called -/
theorem d_callB {id : String} {x : Str} {p : Pos} {r : List V → Hp → VK → Prop} {op : List D → Option D} (hc : CallR X (.builtin id) r) (hr : CallD (gx X) r op) (hg : Gl X x) (hm : X.mg x = none) (hv : bootBuiltins x = some (.builtin id)) (ha : PA X (e :: es) (tA (gx X) fs)) (hn : x ≠ "__name__" := by decide) (hdb : (x == ("__debug__" : Str)) = false := by decide)
    (he : starEach (e :: es) X.env = (false, eval e X.env) :: starEach es X.env := by rfl) (hpl : (backTo pos (starEach es X.env)).any (·.1) = false := by rfl) : PE X (.Call (.Name x p) (e :: es) [] pos) (tD (gx X) (dCall op fs)) := (pe_callB hc hg hm hv ha hn hdb he hpl).impD fun q => rd_call hr q
theorem d_callTy {T : String} {x : Str} {p : Pos} {r : List V → Hp → VK → Prop} {op : List D → Option D} (hc : CallR X (.type T) r) (hr : CallD (gx X) r op) (hg : Gl X x) (hm : X.mg x = none) (hv : bootBuiltins x = some (.type T)) (ha : PA X (e :: es) (tA (gx X) fs)) (hn : x ≠ "__name__" := by decide) (hdb : (x == ("__debug__" : Str)) = false := by decide)
    (he : starEach (e :: es) X.env = (false, eval e X.env) :: starEach es X.env := by rfl) (hpl : (backTo pos (starEach es X.env)).any (·.1) = false := by rfl) : PE X (.Call (.Name x p) (e :: es) [] pos) (tD (gx X) (dCall op fs)) := (pe_callTy hc hg hm hv ha hn hdb he hpl).impD fun q => rd_call hr q
end
/-! ### xs[i] -/
def ixD : D → D → Option D
  | .lst ds, .int i => atI ds i
  | .tup ds, .int i => atI ds i
  | .str z, .int i => if z.length ≤ sizeLine then (atI z.cps.toList i).map fun c => .str ⟨#[c]⟩ else none
  | _, _ => none
theorem Rps.atI {g : G} {F : AP} {H : Hp} {ds : List D} {vs : List V} {i : Int} {d : D} (r : Rps g F H ds vs) (h : L2.atI ds i = some d) : ∃ v, L2.atI vs i = some v ∧ Rp g F H d v := by
  unfold L2.atI at h ⊢
  obtain ⟨j, h1, h2⟩ := Option.bind_eq_some_iff.mp h
  obtain ⟨v, h3, h4⟩ := r.get h2
  rw [← r.length, h1]
  exact ⟨v, h3, h4⟩
theorem od_ix {g : G} : OpD g (rIx g.K) ixD := by
  intro F H x y dx dy d Q fr rx ry e q
  unfold ixD at e
  split at e
  · simp only [Rp] at rx ry
    obtain ⟨a, vs, rfl, f, t, k⟩ := rx
    subst ry
    obtain ⟨v, h1, h2⟩ := k.atI e
    exact .inl ⟨a, vs, _, v, rfl, rfl, .of t, h1, q F H v (.refl fr) h2⟩
  · simp only [Rp] at rx ry
    obtain ⟨a, vs, rfl, t, k⟩ := rx
    subst ry
    obtain ⟨v, h1, h2⟩ := k.atI e
    exact .inr (.inl ⟨a, vs, _, v, rfl, rfl, t.sq, h1, q F H v (.refl fr) h2⟩)
  · split at e
    · simp only [Rp] at rx ry
      subst rx ry
      obtain ⟨c, h1, rfl⟩ := Option.map_eq_some_iff.mp e
      exact .inr (.inr ⟨_, _, c, rfl, rfl, ‹_›, h1, q F H _ (.refl fr) (by simp [Rp])⟩)
    · cases e
  · cases e
section
variable {X : Cx} {a b : Expr} {fa fb : M D} {pos : Pos}
theorem d_ix (ha : PE X a (tD (gx X) fa)) (hb : PE X b (tD (gx X) fb)) (hs : PlainIx b := by exact fun _ _ => rfl) : PE X (.Subscript a b pos) (tD (gx X) (dOp2 ixD fa fb)) := (pe_ix ix_seq ha hb hs).impD (rd_op2 od_ix)
end
/-! ### slices -/
def cut {α : Type} (xs : List α) (lo hi : Option Int) : List α := (xs.drop (HT.sIx xs.length 0 lo)).take (HT.sIx xs.length xs.length hi - HT.sIx xs.length 0 lo)
def slD (x : D) (lo hi : Option Int) : Option D := match x with
  | .lst ds => some (.lst (cut ds lo hi))
  | .tup ds => some (.tup (cut ds lo hi))
  | .str z => if z.length ≤ sizeLine then some (.str (cutS z lo hi)) else none
  | .scr ns => some (.lst (cut (ns.map .int) lo hi))
  | _ => none
def oNone : M (Option Int) := ret none
def oSome (f : M D) : M (Option Int) := bnd f fun x => match x with
  | .int i => ret (some i)
  | _ => fun _ => none
def tOM (g : G) (f : M (Option Int)) : TO := fun σ H Q => ∃ F ρ fps b ρ', EnvR g F H ρ fps σ ∧ Wd F H fps ∧ f ρ = some (b, ρ') ∧
  ∀ F' H' fps', Ext F H fps F' H' fps' → EnvR g F' H' ρ' fps' σ → Wd F' H' fps' → Q b H'
def dSl (f : M D) (lo hi : M (Option Int)) : M D := bnd f fun x => bnd lo fun l => bnd hi fun h => opt (slD x l h)
def rSlAll (K : PySem.W.Frag) : V → Option Int → Option Int → Hp → VK → Prop := fun x lo hi H Q => rSlL K x lo hi H Q ∨ (rSlA K x lo hi H Q ∨ rSlS x lo hi H Q)
theorem sl_all {X : Cx} : SlR X (rSlAll X.K) := sl_list.or (sl_tupA.or sl_str)
theorem Rps.cut {g : G} {F : AP} {H : Hp} {ds : List D} {vs : List V} {lo hi : Option Int} (r : Rps g F H ds vs) : Rps g F H (DL.cut ds lo hi) (cutV vs lo hi) := by
  unfold DL.cut cutV
  rw [r.length]
  exact (r.drop _).take _
theorem sl_ok {g : G} {F : AP} {H : Hp} {x : V} {dx d : D} {lo hi : Option Int} {Q : VK} (fr : ∀ a, F a → H a ≠ none) (rx : Rp g F H dx x) (e : slD dx lo hi = some d) (q : ∀ F' H' v, New F H F' H' → Rp g F' H' d v → Q v H') : rSlAll g.K x lo hi H Q := by
  unfold slD at e
  split at e
  · cases e
    simp only [Rp] at rx
    obtain ⟨a, vs, rfl, f, t, k⟩ := rx
    exact .inl ⟨a, vs, rfl, .of t, fun p hp => q _ _ _ (New.laid fr hp) (New.lst fr hp k.cut)⟩
  · cases e
    simp only [Rp] at rx
    obtain ⟨a, vs, rfl, t, k⟩ := rx
    refine .inr (.inl ⟨a, vs, rfl, t.sq, fun hw => ?_, fun _ p hp => q _ _ _ (New.laid fr hp) (New.tup fr hp k.cut)⟩)
    refine q F H _ (.refl fr) ?_
    rename_i ds
    have e : DL.cut ds lo hi = ds := by
      unfold DL.cut
      rw [k.length, hw.1, hw.2, List.drop_zero, Nat.sub_zero, ← k.length, List.take_length]
    rw [e]
    simp only [Rp]
    exact ⟨a, vs, rfl, t, k⟩
  · split at e
    · cases e
      simp only [Rp] at rx
      subst rx
      exact .inr (.inr ⟨_, rfl, ‹_›, q F H _ (.refl fr) (by simp [Rp])⟩)
    · cases e
  · cases e
    simp only [Rp] at rx
    obtain ⟨a, rfl, t⟩ := rx
    exact .inl ⟨a, _, rfl, t.sq, fun p hp => q _ _ _ (New.laid fr hp) (New.lst fr hp (Rps.cut Rps.of_ints))⟩
  · cases e
section
variable {X : Cx} {e a : Expr} {f : M D} {lo hi : M (Option Int)} {elo ehi : Option Expr} {pos p2 : Pos}
theorem o_none : PO X none (tOM (gx X) oNone) := ⟨fun pins s σ H Q I ⟨F, ρ, fps, d, ρ', en, w, hf, q⟩ => po_none.run pins s σ H Q I (by
  obtain ⟨rfl, rfl⟩ := ret_some.mp hf
  exact q F H fps .refl en w)⟩
theorem o_some (h : PE X a (tD (gx X) f)) : PO X (some a) (tOM (gx X) (oSome f)) := ⟨fun pins s σ H Q I ⟨F, ρ, fps, d, ρ', en, w, hf, q⟩ => (po_some h).run pins s σ H Q I (by
  obtain ⟨x, ρ1, h1, h2⟩ := bnd_some.mp hf
  split at h2
  · obtain ⟨rfl, rfl⟩ := ret_some.mp h2
    exact ⟨F, ρ, fps, _, _, en, w, h1, fun F1 H1 p1 v x1 e1 w1 r1 => ⟨_, by simpa [Rp] using r1, q F1 H1 p1 x1 e1 w1⟩⟩
  · cases h2)⟩
theorem d_sl (he : PE X e (tD (gx X) f)) (hl : PO X elo (tOM (gx X) lo)) (hh : PO X ehi (tOM (gx X) hi)) : PE X (.Subscript e (.Slice elo ehi none p2) pos) (tD (gx X) (dSl f lo hi)) := (pe_slice sl_all he hl hh).impD fun {σ H Q} ⟨F, ρ, fps, d, ρ', en, w, hf, q⟩ => by
  obtain ⟨x, ρ1, h1, h2⟩ := bnd_some.mp hf
  obtain ⟨l, ρ2, h3, h4⟩ := bnd_some.mp h2
  obtain ⟨u, ρ3, h5, h6⟩ := bnd_some.mp h4
  obtain ⟨h7, rfl⟩ := opt_some.mp h6
  refine ⟨F, ρ, fps, _, _, en, w, h1, fun F1 H1 p1 v x1 e1 w1 r1 => ⟨F1, ρ1, p1, l, ρ2, e1, w1, h3, fun F2 H2 p2 x2 e2 w2 => ⟨F2, ρ2, p2, u, _, e2, w2, h5, fun F3 H3 p3 x3 e3 w3 => ?_⟩⟩⟩
  have r3 := Rp.mono (x3.frozen w2) _ _ (Rp.mono (x2.frozen w1) _ _ r1)
  refine sl_ok w3.fro r3 h7 fun F4 H4 v n r => ?_
  obtain ⟨x4, e4, w4⟩ := n.go e3 w3
  exact q F4 H4 p3 v (((x1.trans x2).trans x3).trans x4) e4 w4 r
end
end DL
set_option Elab.async false
set_option linter.all false
set_option maxRecDepth 100000
set_option maxHeartbeats 4000000
/-! The data layer: promises of defs that also know that nothing is being shown (repr) around the call. -/
namespace DL
open PySem PySem.Spec PyProof.Rows L2
structure FnG (P : Program) (w : World) (K : PySem.W.Frag) (mg : Str → Option Value) (base : Heap) (CX : CXT) (k : Nat) (f : Addr) (fd : FuncData) (ps : List Str) (sp : Sp) : Prop where
  len : ∀ vs H Q E, sp vs H Q E → vs.length = ps.length
  run : ∀ (A : Around) (outer : List PySem.Env) (s : Shared) (H : Hp) (args : Args) (us : List Value) (vs : List V) (Q : VK) (E : XK), Room k A → A.guards = some [] → Env0 P w K mg base A outer s H → BindsTo s fd args (ps.zip us) →
    Vals vs us → sp vs H Q E → codeAny (model P w) A (.call (.ref f) args) (CR CX outer P w H s Q E) s
section
variable {P : Program} {w : World} {K : PySem.W.Frag} {mg : Str → Option Value} {base : Heap} {CX : CXT} {x qual : Str} {params : Arguments} {body : List Stmt} {scope : Scope} {dvs : List V} {kws : List (Str × V)} {f : Addr} {fd : FuncData}
theorem FnG.mono {j k : Nat} {ps : List Str} {sp : Sp} (F : FnG P w K mg base CX j f fd ps sp) (h : j ≤ k) : FnG P w K mg base CX k f fd ps sp :=
  ⟨F.len, fun A o s H a us vs Q E r gd e b v q => F.run A o s H a us vs Q E (r.mono h) gd e b v q⟩
/-- a def keeps its promise, by its body -/
theorem okG {N ps : List Str} {k : Nat} {sp : Sp} (F : FunD K x qual params body scope dvs kws f fd) (S : FnScope N ps scope) (len : ∀ vs H Q E, sp vs H Q E → vs.length = ps.length)
    (bd : ∀ (cdv : Value) (A : Around) (outer : List PySem.Env) (s : Shared) (H : Hp) (vs : List V) (Q : VK) (E : XK), Room k (A.deeper (envOfC qual scope s.heap.objs.size f cdv)) → A.guards = some [] → sp vs H Q E →
      ∃ t, PSs (cxOf CX P w K mg base N qual scope f cdv A outer s H E) body t ∧ t { nx := fun _ H' => Q .non H', rt := Q } (start N vs) H) : FnG P w K mg base CX (k + 1) f fd ps sp := by
  obtain ⟨oc, od, dV, kV, doc, pm, an, cdv, ct, osl, rfl, look, code, _, _⟩ := F.ex
  refine ⟨len, fun A outer s H args us vs Q E room gd at0 bind rel prom => ?_⟩
  have hln := len _ _ _ _ prom
  have inK : K.In s.heap := at0.mod.kin.keeps fun b o e => (at0.bs b o e).1
  have nol : s.heap.NoLimit := at0.mod.nolimit.keeps fun b o e => (at0.bs b o e).1
  have kinds : ∀ y ∈ ps.zip us, scope.names.lookup y.1 = some .local ∨ (scope.names.lookup y.1 = some .cell ∧ ((cellsFrom (s.heap.objs.size + 1) scope.names []).lookup y.1).isSome = true) := by
    rintro ⟨n, v⟩ hy
    have hm := S.par n (List.of_mem_zip hy).1
    exact hm.imp id fun q => ⟨q, PySem.W.cellsFrom_some _ _ _ (.inl q)⟩
  refine codeAny_call_function room.depth (inK _ _ look) rfl S.co S.gen rfl (PySem.W.codeRec_of inK code) (bind _ _ _ _ ?_)
  refine wpAny_newFunctionEnv_cells S.kind kinds fun env he s1 x1 => ?_
  subst he
  refine ⟨nol.keeps x1.toInCall.keep, codeAny_func ?_⟩
  obtain ⟨t, walk, start0⟩ := bd cdv A outer s H vs Q E (room.deeper _) gd prom
  have I0 := inv_start (CX := CX) (E := E) (f := f) (cd := cdv) (qual := qual) S room.hd at0 hln rel x1
  refine wpAny_mono (walk.run [] s1 _ H _ I0 start0) (fun fl s2 done => ?_) fun _ _ z => z
  match fl, done with
  | .ret u, ⟨v, σ2, H2, J, rv, q⟩ => exact ⟨v, H2, J.os, J.bare, J.base, J.hok, rv, q⟩
  | .next, ⟨σ2, H2, J, q⟩ => exact ⟨.non, H2, J.os, J.bare, J.base, J.hok, rfl, q⟩
  | .brk, ⟨_, _, _, q⟩ => exact q.elim
  | .cont, ⟨_, _, _, q⟩ => exact q.elim
end
section
variable {X : Cx} {CX : CXT} {k : Nat} {f C : Addr} {fd : FuncData} {ps : List Str} {sp : Sp} {dvs : List V} {ds : List Value} {E : XK} {x m : Str} {p pos apos : Pos} {e o : Expr} {es : List Expr} {ta : TE} {t : TA}
/-- a callee runs -/
theorem run_g {pins : List (Addr × Obj)} {σ : L2.St} {H : Hp} {s : Shared} {Q : VK} {us : List Value} {vs : List V} (F : FnG X.prog X.w X.K X.mg X.base CX k f fd ps sp) (hr : Room k X.A) (gd : X.A.guards = some []) (hb : Binds X.K fd ps ds) (hd : Vals dvs ds)
    (hx : Passes CX X E) (I : Inv X pins σ H s) (r : Vals vs us) (h : sp (vs ++ dvs) H Q E) : wpAny (model X.prog X.w) X.A (call (.ref f) us) (EP X pins σ Q) X.xe s := by
  have r2 := r.append hd
  have hl : (us ++ ds).length = ps.length := r2.length.symm.trans (F.len _ _ _ _ h)
  refine wpAny_call (codeAny_mono (F.run X.A X.stack s H _ (us ++ ds) _ Q E hr gd I.env0 (hb s us I.kIn hl) r2 h) fun r s' hq => ?_)
  match r, hq with
  | .error e, hq => exact hx pins σ H s e s' I hq
  | .ok (.ret u), hq => exact I.after hq
  | .ok .next, hq => exact hq.elim
  | .ok .brk, hq => exact hq.elim
  | .ok .cont, hq => exact hq.elim
theorem pe_callG (F : FnG X.prog X.w X.K X.mg X.base CX k f fd ps sp) (hr : Room k X.A) (gd : X.A.guards = some []) (hg : Gl X x) (hm : X.mg x = some (.ref f)) (hk : PySem.W.keepIn X.K (.ref f) = true) (hb : Binds X.K fd ps ds) (hd : Vals dvs ds) (hx : Passes CX X E)
    (ha : PA X (e :: es) t) (hdb : (x == ("__debug__" : Str)) = false := by decide) (he : starEach (e :: es) X.env = (false, eval e X.env) :: starEach es X.env := by rfl) (hpl : (backTo pos (starEach es X.env)).any (·.1) = false := by rfl) :
    PE X (.Call (.Name x p) (e :: es) [] pos) (tCall sp dvs E t) := ⟨fun pins s σ H Q I h =>
  wpAny_Call_Name_kw (ld_glob I hg hm (PySem.W.callWith_K (h₀ := X.base) I.ok.mod.kin hk (thn (ha.run pos pins s σ H _ I h) fun us s1 ⟨vs, H1, I1, r, q⟩ => ⟨I1.kIn, run_g F hr gd hb hd hx I1 r q⟩) he hpl) hdb)⟩
end
/-! ### the law's own call -/
theorem law_callG {P : Program} {w : World} {K : PySem.W.Frag} {mg mb : Str → Option Value} {CX : CXT} {k : Nat} {fa a : Addr} {fd : FuncData} {x : Str} {sp : Sp} {s₁ : Shared} {vs : List Value} {ns : List Int}
    (inK : K.In s₁.heap) (hns : s₁.heap.Ns mainGlobals mg) (hb : s₁.heap.Ns builtinsNs mb) (hbb : ∀ x : Str, x ≠ "__name__" → mb x = bootBuiltins x) (nol : s₁.heap.NoLimit) (hg : s₁.gens = #[])
    (at1 : s₁.heap.get? a = some { cls := .type "list", data := .seq vs.toArray }) (intsA : IntsAre vs ns) (short : ns.length ≤ sizeLine) (room : Room k callerA)
    (F : ∀ base : Heap, K.In base → base.Ns mainGlobals mg → FnG P w K mg base CX k fa fd [x] sp) (bind : ∀ (s : Shared) (u : Value), BindsTo s fd ⟨[u], []⟩ [(x, u)])
    (prom : ∀ H : Hp, Only H → SqL K H a (ns.map V.int) → sp [.ref a] H (fun v _ => v = .bl true) fun _ _ _ => False)
    (noX : ∀ H e s', CX [] H s₁ (fun _ _ _ => False) e s' → False) :
    codeAny (model P w) callerA (.call (.ref fa) ⟨[.ref a], []⟩) (fun r s' => r = .ok (.ret (.bool true)) ∧ OldK s₁.heap s'.heap ∧ s'.os = s₁.os ∧ AllBare s'.gens) s₁ := by
  have relV := vals_ints intsA
  -- the abstract heap: the script, if it is no object of the module
  obtain ⟨H, hO, hS, hok, only, free⟩ : ∃ H : Hp, Only H ∧ SqL K H a (ns.map V.int) ∧ HOk P w H s₁.heap ∧ (∀ b, H b ≠ none → b = a) ∧ (H a ≠ none → K.lookup a = none) := by
    cases hk : K.lookup a with
    | some o =>
      have e := inK a o hk
      rw [at1] at e
      cases e
      refine ⟨fun _ => none, fun _ => .inl rfl, .inr ⟨_, vs.toArray, _, hk, rfl, rfl, rfl, ?_, by simpa using relV⟩, fun b u z => by simp at z, fun b z => by simp at z, fun z => by simp at z⟩
      rw [List.size_toArray, intsA.length]
      exact short
    | none =>
      refine ⟨fun b => if b = a then some (.frz { cls := .type "list", data := .seq vs.toArray } (.lst (ns.map V.int))) else none, fun b => ?_, .inl (.inr ⟨_, if_pos rfl⟩), fun b u z => ?_, fun b z => ?_, fun _ => rfl⟩
      · by_cases q : b = a
        · exact .inr ⟨_, _, if_pos q⟩
        · exact .inl (if_neg q)
      · by_cases q : b = a
        · subst q
          dsimp only at z
          rw [if_pos rfl] at z
          cases z
          exact ⟨at1, by rw [List.length_map]; exact short, vs, _, relV, at1⟩
        · dsimp only at z
          rw [if_neg q] at z
          cases z
      · by_cases q : b = a
        · exact q
        · dsimp only at z
          rw [if_neg q] at z
          exact absurd rfl z
  have away : ∀ {b : Addr} {o : Obj}, s₁.heap.get? b = some o → b ≠ a → (hidT s₁.heap H).get? b = some o := fun {b o} e n => hidT_get e (Classical.byContradiction fun q => n (only b q))
  have nsK : ∀ {b : Addr} {m : Str → Option Value}, s₁.heap.Ns b m → (hidT s₁.heap H).Ns b m := by
    rintro b m ⟨o, es, ep, e, d, r⟩
    refine ⟨o, es, ep, away e ?_, d, r⟩
    rintro rfl
    rw [at1] at e
    cases e
    cases d
  have inB : K.In (hidT s₁.heap H) := fun b o e => hidT_get (inK b o e) (Classical.byContradiction fun q => by
    have eb := only b q
    subst eb
    rw [free q] at e
    cases e)
  obtain ⟨mc, l1, l2⟩ := nol
  have hM : Mod K mg (hidT s₁.heap H) := ⟨inB, nsK hns, ⟨mb, nsK hb, hbb⟩, ⟨mc, nsK l1, l2⟩⟩
  have at0 : Env0 P w K mg (hidT s₁.heap H) callerA [] s₁ H :=
    { frames := rfl, mod := hM, bs := fun b o e => of_hidT e, bsz := Nat.le_of_eq (hidT_size _ _), funs := trivial, frf := fun b z => by simp [frs] at z, hok := hok, bare := .of_eq hg }
  refine codeAny_mono ((F _ inB (nsK hns)).run callerA [] s₁ H ⟨[.ref a], []⟩ [.ref a] [.ref a] _ _ room rfl at0 (bind s₁ (.ref a)) (.cons rfl .nil) (prom H hO hS)) fun r s' h => ?_
  match r, h with
  | .error e, h => exact (noX H e s' h).elim
  | .ok .next, h => exact h.elim
  | .ok .brk, h => exact h.elim
  | .ok .cont, h => exact h.elim
  | .ok (.ret u), h =>
    obtain ⟨v, H', os, bare, un, hok', r', q⟩ := h
    have q' : v = .bl true := q
    subst q'
    obtain rfl : u = Value.bool true := r'
    refine ⟨rfl, OldK.of_keep fun b o e => ?_, os, bare⟩
    cases hb : H b with
    | none => exact un.keep b o e hb (by simp [frs]) (by simp)
    | some u =>
      rcases hO b with z | ⟨ob, xs, z⟩
      · rw [hb] at z; cases z
      · obtain ⟨e1, _⟩ := hok b _ z
        obtain ⟨e2, _⟩ := hok' b _ (un.frzs b ob _ z)
        rw [e] at e1; cases e1
        exact e2
theorem walk_G {l : PySem.W.OpenLaw} {n k : Nat} {q : Program} {loose : List Str} {XP : (Str → Option Value) → Heap → Prop} {YP : World → Heap → Prop} {d : DefRec} {CX : CXT} {x : Str}
    (hn : l.most = some n) (hn2 : n ≤ sizeLine) (hdf : d.params.defaults = []) (hr : Room k callerA)
    (F : ∀ (w : World) (mg : Str → Option Value) (fa : Addr) (h : Heap), YP w h → h.Ns mainGlobals mg → mg d.name = some (.ref fa) →
      ∃ (K : PySem.W.Frag) (fd : FuncData) (sp : Sp), K.In h ∧ (∀ (s : Shared) (u : Value), BindsTo s fd ⟨[u], []⟩ [(x, u)]) ∧
        (∀ (H : Hp) (a : Addr) (ns : List Int), ns.length ≤ n → Only H → SqL K H a (ns.map V.int) → sp [.ref a] H (fun v _ => v = .bl true) fun _ _ _ => False) ∧
        ∀ base : Heap, K.In base → base.Ns mainGlobals mg → FnG l.prog w K mg base CX k fa fd [x] sp)
    (hCX : ∀ (H : Hp) (s : Shared) (e : Value) (s' : Shared), CX [] H s (fun _ _ _ => False) e s' → False) :
    PySem.W.WalkO q loose XP YP l.row.toRowW d [] (fun f vs => PySem.call f vs) :=
  Att.attach_call hn hdf fun w s₀ s₁ mg mb fa o pm cd doc a vs ns G Y ho hd hcd hmg hobj hints hlen hg =>
    let ⟨_, _, _, KX, hb, hsp, hF⟩ := F w mg fa _ Y G.T.g hmg
    law_callG KX G.T.g G.T.b G.T.builtins G.T.nolimit hg hobj hints (Nat.le_trans hlen hn2) hr hF hb (fun H hO hS => hsp H a ns hlen hO hS) fun H e s' => hCX H s₁ e s'
end DL
set_option Elab.async false
set_option linter.all false
set_option maxRecDepth 100000
set_option maxHeartbeats 4000000
/-! The data layer: built-in calls. -/
namespace DL
open PySem PySem.Spec L2
/-! ### len, list, tuple -/
def lenD : List D → Option D
  | [.lst ds] => some (.int ds.length)
  | [.tup ds] => some (.int ds.length)
  | [.str y] => if y.length ≤ sizeLine then some (.int y.length) else none
  | _ => none
theorem cd_len {g : G} : CallD g (fun xs H Q => ∃ x n, xs = [x] ∧ LenV g.K x H n ∧ Q (.int n) H) lenD := by
  intro F H vs ds d Q fr r0 e q
  unfold lenD at e
  split at e
  · cases e
    obtain ⟨v, rfl, r⟩ := Rps.one.mp r0
    simp only [Rp] at r
    obtain ⟨a, us, rfl, f, t, k⟩ := r
    exact ⟨_, us.length, rfl, .inl ⟨us, .of t, rfl⟩, q F H _ (.refl fr) (by simp [Rp, k.length])⟩
  · cases e
    obtain ⟨v, rfl, r⟩ := Rps.one.mp r0
    simp only [Rp] at r
    obtain ⟨a, us, rfl, t, k⟩ := r
    exact ⟨_, us.length, rfl, .inr ⟨us, t.sq, rfl⟩, q F H _ (.refl fr) (by simp [Rp, k.length])⟩
  · split at e
    · cases e
      obtain ⟨v, rfl, r⟩ := Rps.one.mp r0
      simp only [Rp] at r
      subst r
      exact ⟨_, _, rfl, ⟨‹_›, rfl⟩, q F H _ (.refl fr) (by simp [Rp])⟩
    · cases e
  · cases e
def listD : List D → Option D
  | [.lst ds] => some (.lst ds)
  | [.tup ds] => some (.lst ds)
  | _ => none
def tupleD : List D → Option D
  | [.lst ds] => some (.tup ds)
  | [.tup ds] => some (.tup ds)
  | _ => none
theorem cd_tuple {g : G} : CallD g (fun xs H Q => ∃ p ys, xs = [.ref p] ∧ ((SqL g.K H p ys ∧ ∀ l, H l = none → Q (.ref l) (upd H l (.tup ys))) ∨ (SqT g.K H p ys ∧ Q (.ref p) H))) tupleD := by
  intro F H vs ds d Q fr r0 e q
  unfold tupleD at e
  split at e
  · cases e
    obtain ⟨v, rfl, r⟩ := Rps.one.mp r0
    simp only [Rp] at r
    obtain ⟨a, us, rfl, f, t, k⟩ := r
    exact ⟨_, us, rfl, .inl ⟨.of t, fun p hp => q _ _ _ (New.laid fr hp) (New.tup fr hp k)⟩⟩
  · cases e
    obtain ⟨v, rfl, r⟩ := Rps.one.mp r0
    have r' := r
    simp only [Rp] at r
    obtain ⟨a, us, rfl, t, k⟩ := r
    exact ⟨_, us, rfl, .inr ⟨t.sq, q F H _ (.refl fr) r'⟩⟩
  · cases e
/-! ### ints, bools of a list -/
def asInt : D → Option Int
  | .int i => some i
  | _ => none
def intsOf (ds : List D) : Option (List Int) := ds.mapM asInt
def bsOf (ds : List D) : Option (List Bool) := ds.mapM asB
theorem bsOf_some : ∀ {ds : List D} {ns : List Bool}, bsOf ds = some ns → ds = ns.map D.bl
  | [], ns, h => by simp [bsOf] at h; subst h; rfl
  | d :: ds, ns, h => by
    simp only [bsOf, List.mapM_cons] at h
    cases d with
    | bl i =>
      simp only [asB] at h
      cases h2 : List.mapM asB ds with
      | none => rw [h2] at h; simp at h
      | some ms =>
        rw [h2] at h
        simp at h
        subst h
        rw [bsOf_some h2]; rfl
    | _ => simp [asB] at h
theorem bsOf_map : ∀ ns : List Bool, bsOf (ns.map D.bl) = some ns
  | [] => by simp [bsOf]
  | n :: ns => by
    have := bsOf_map ns
    unfold bsOf at this ⊢
    simp only [List.map_cons, List.mapM_cons, asB, this]
    rfl
def allD : List D → Option D
  | [.lst ds] => (bsOf ds).map fun ns => .bl (ns.all id)
  | _ => none
theorem cd_all {g : G} : CallD g (rAll g.K) allD := by
  intro F H vs ds d Q fr r0 e q
  unfold allD at e
  split at e
  · obtain ⟨ns, h, rfl⟩ := Option.map_eq_some_iff.mp e
    have := bsOf_some h
    subst this
    obtain ⟨v, rfl, r⟩ := Rps.one.mp r0
    simp only [Rp] at r
    obtain ⟨a, us, rfl, f, t, k⟩ := r
    have := k.bls
    subst this
    exact ⟨a, ns, rfl, .of t, q F H _ (.refl fr) (by simp [Rp])⟩
  · cases e
/-! greatest and least -/
def maxL : List Int → Int
  | [] => 0
  | n :: ns => ns.foldl max n
def minL : List Int → Int
  | [] => 0
  | n :: ns => ns.foldl min n
def maxD : List D → Option D
  | [.lst ds] => (intsOf ds).bind fun ns => if ns.isEmpty then none else some (.int (maxL ns))
  | [.int a, .int b] => some (.int (max a b))
  | _ => none
def minD : List D → Option D
  | [.lst ds] => (intsOf ds).bind fun ns => if ns.isEmpty then none else some (.int (minL ns))
  | [.int a, .int b] => some (.int (min a b))
  | _ => none
def absD : List D → Option D
  | [.int i] => some (.int (if i < 0 then -i else i))
  | _ => none
theorem cd_abs {g : G} : CallD g (fun xs H Q => ∃ i, xs = [.int i] ∧ Q (.int (if i < 0 then -i else i)) H) absD := by
  intro F H vs ds d Q fr r0 e q
  unfold absD at e
  split at e
  · cases e
    obtain ⟨v, rfl, r⟩ := Rps.one.mp r0
    simp only [Rp] at r
    subst r
    exact ⟨_, rfl, q F H _ (.refl fr) (by simp [Rp])⟩
  · cases e
def toIntD : List D → Option D
  | [.int i] => some (.int i)
  | [.bl b] => some (.int (if b then 1 else 0))
  | _ => none
theorem cd_int {g : G} : CallD g (fun xs H Q => (∃ i, xs = [.int i] ∧ Q (.int i) H) ∨ ∃ k, xs = [.bl k] ∧ Q (.int (if k then 1 else 0)) H) toIntD := by
  intro F H vs ds d Q fr r0 e q
  unfold toIntD at e
  split at e
  · cases e
    obtain ⟨v, rfl, r⟩ := Rps.one.mp r0
    simp only [Rp] at r
    subst r
    exact .inl ⟨_, rfl, q F H _ (.refl fr) (by simp [Rp])⟩
  · cases e
    obtain ⟨v, rfl, r⟩ := Rps.one.mp r0
    simp only [Rp] at r
    subst r
    exact .inr ⟨_, rfl, q F H _ (.refl fr) (by simp [Rp])⟩
  · cases e
/-! sorted, of ints -/
/-! ### repr -/
def reprP (p : PyData) : Option Str := if p.showable = true ∧ p.shown.length ≤ sizeLine then some p.shown else none
def reprD : List D → Option D
  | [d] => (shp d).bind fun p => (reprP p).map .str
  | _ => none
def rRepr (K : PySem.W.Frag) : List V → Hp → VK → Prop := fun xs H Q => ∃ x p, xs = [x] ∧ Dp K H x p ∧ SeqAt.shaped p = true ∧ p.showable = true ∧ p.shown.length ≤ sizeLine ∧ Q (.str p.shown) H
theorem call_reprG {X : Cx} (gd : X.A.guards = some []) (hu : X.A.units + 70 < cLine) : CallR X (.builtin "repr") (rRepr X.K) := by
  intro pins s σ H xs us Q I r h
  obtain ⟨x, p, rfl, dp, sh, sw, sz, q⟩ := h
  obtain ⟨u, rfl, ru⟩ := vals1 r
  have far : ∀ a, x = .ref a → wpAny (model X.prog X.w) X.A (call (.builtin "repr") [u]) (EP X pins σ Q) X.xe s := by
    rintro a rfl
    cases ru
    obtain ⟨as, rd⟩ := Dp.reads I p (.ref a) (.ref a) dp rfl
    have hd : p.hasDict = false := PyData.hasDict_of_canLay p (SeqAt.canLay_of_shaped sh)
    refine repr_of_reads' rd sw (PyData.noDict_hsm hd) gd (by have := SeqAt.depth_of_shaped sh; omega) (fun _ _ e => e) (fun h' t tk hk => ?_) sz
    exact ⟨.str p.shown, H, I.kept hk, ⟨_, rfl⟩, q⟩
  cases dp with
  | non => cases ru; exact P.repr_of_none ⟨V.str "None", H, I.tok _, ⟨_, rfl⟩, by simpa [PyData.shown] using q⟩
  | bl b => cases ru; exact P.repr_of_bool ⟨V.str (if b then "True" else "False"), H, I.tok _, ⟨_, rfl⟩, by simpa [PyData.shown] using q⟩
  | int i =>
    obtain ⟨t, rfl⟩ := ru
    exact P.repr_of_int (by simpa [PyData.showable] using sw) ⟨V.str (toString i), H, I.tok _, ⟨_, rfl⟩, by simpa [PyData.shown] using q⟩
  | str z =>
    obtain ⟨t, rfl⟩ := ru
    exact P.repr_of_str ⟨V.str (reprText z), H, I.tok _, ⟨_, rfl⟩, by simpa [PyData.shown] using q⟩ (by simpa [PyData.shown] using sz)
  | lst a b => exact far _ rfl
  | tup a b => exact far _ rfl
theorem cd_repr {g : G} : CallD g (rRepr g.K) reprD := by
  intro F H vs ds d Q fr r0 e q
  unfold reprD at e
  split at e
  · obtain ⟨p, h1, h2⟩ := Option.bind_eq_some_iff.mp e
    obtain ⟨z, h3, rfl⟩ := Option.map_eq_some_iff.mp h2
    unfold reprP at h3
    split at h3
    · rename_i hh
      cases h3
      obtain ⟨v, rfl, r⟩ := Rps.one.mp r0
      obtain ⟨k1, k2⟩ := shp_some h1
      exact ⟨v, p, rfl, Rp.dp _ _ _ r k1, k2, hh.1, hh.2, q F H _ (.refl fr) (by simp [Rp])⟩
    · cases h3
  · cases e
/-! ### isinstance, of a built-in class -/
def isaB (x : D) (n : String) : Option Bool :=
  if n = "int" then some (match x with | .int _ => true | .bl _ => true | _ => false)
  else if n = "bool" then some (match x with | .bl _ => true | _ => false)
  else if n = "str" then some (match x with | .str _ => true | _ => false)
  else if n = "list" then some (match x with | .lst _ => true | _ => false)
  else if n = "tuple" then some (match x with | .tup _ => true | _ => false)
  else if n = "dict" then some (match x with | .dct _ => true | _ => false)
  else none
def tyOf : D → Option String
  | .non => some "NoneType"
  | .bl _ => some "bool"
  | .int _ => some "int"
  | .str _ => some "str"
  | .lst _ => some "list"
  | .tup _ => some "tuple"
  | .dct _ => some "dict"
  | _ => none
def isaD : List D → Option D
  | [x, .ty n] => (tyOf x).bind fun _ => (isaB x n).map .bl
  | _ => none
theorem kit_tab {x : D} {t n : String} {b : Bool} (h : tyOf x = some t) (e : isaB x n = some b) : kitB t n = some b := by
  unfold isaB at e
  split at e
  · rename_i hn; subst hn
    cases x <;> simp only [tyOf, reduceCtorEq, Option.some.injEq] at h <;> subst h <;> cases e <;> first | (change kitB _ _ = some true; decide +kernel) | (change kitB _ _ = some false; decide +kernel)
  split at e
  · rename_i hn; subst hn
    cases x <;> simp only [tyOf, reduceCtorEq, Option.some.injEq] at h <;> subst h <;> cases e <;> first | (change kitB _ _ = some true; decide +kernel) | (change kitB _ _ = some false; decide +kernel)
  split at e
  · rename_i hn; subst hn
    cases x <;> simp only [tyOf, reduceCtorEq, Option.some.injEq] at h <;> subst h <;> cases e <;> first | (change kitB _ _ = some true; decide +kernel) | (change kitB _ _ = some false; decide +kernel)
  split at e
  · rename_i hn; subst hn
    cases x <;> simp only [tyOf, reduceCtorEq, Option.some.injEq] at h <;> subst h <;> cases e <;> first | (change kitB _ _ = some true; decide +kernel) | (change kitB _ _ = some false; decide +kernel)
  split at e
  · rename_i hn; subst hn
    cases x <;> simp only [tyOf, reduceCtorEq, Option.some.injEq] at h <;> subst h <;> cases e <;> first | (change kitB _ _ = some true; decide +kernel) | (change kitB _ _ = some false; decide +kernel)
  split at e
  · rename_i hn; subst hn
    cases x <;> simp only [tyOf, reduceCtorEq, Option.some.injEq] at h <;> subst h <;> cases e <;> first | (change kitB _ _ = some true; decide +kernel) | (change kitB _ _ = some false; decide +kernel)
  cases e
theorem KT.ty {K : PySem.W.Frag} {H : Hp} {a : Addr} {vs : List V} (h : KT K a vs) : TyX K H (.ref a) (.type "tuple") := by
  obtain ⟨o, its, n, h1, h2, _⟩ := h
  exact .kTuple h1 h2
theorem Rp.ty {g : G} {F : AP} {H : Hp} {x : D} {v : V} {t : String} (r : Rp g F H x v) (h : tyOf x = some t) : TyX g.K H v (.type t) := by
  cases x with
  | non => simp only [Rp] at r; subst r; cases h; exact .base .non
  | bl _ => simp only [Rp] at r; subst r; cases h; exact .base (.bl _)
  | int _ => simp only [Rp] at r; subst r; cases h; exact .base (.int _)
  | str _ => simp only [Rp] at r; subst r; cases h; exact .base (.str _)
  | lst _ => simp only [Rp] at r; obtain ⟨a, vs, rfl, f, e, _⟩ := r; cases h; exact .base (.lst e)
  | tup _ =>
    simp only [Rp] at r; obtain ⟨a, vs, rfl, e, _⟩ := r; cases h
    rcases e with ⟨_, e⟩ | e
    · exact .base (.tup e)
    · exact e.ty
  | dct _ => simp only [Rp] at r; obtain ⟨a, vs, rfl, f, e, _⟩ := r; cases h; exact .base (.dK e)
  | ins _ _ => cases h
  | exv _ _ _ => cases h
  | ty _ => cases h
  | scr _ => cases h
theorem cd_isa {g : G} : CallD g (rIsi g.K) isaD := by
  intro F H vs ds d Q fr r0 e q
  unfold isaD at e
  split at e
  · obtain ⟨t, h1, h2⟩ := Option.bind_eq_some_iff.mp e
    obtain ⟨b, h3, rfl⟩ := Option.map_eq_some_iff.mp h2
    obtain ⟨v, u, rfl, r1, r2⟩ := Rps.two.mp r0
    have r2' := r2
    simp only [Rp] at r2
    subst r2
    exact ⟨v, _, _, _, b, rfl, .ty _, r1.ty h1, kit_ty (kit_tab h1 h3), q F H _ (.refl fr) (by simp [Rp])⟩
  · cases e
section
variable {X : Cx} {e : Expr} {pos : Pos}
theorem d_ty {n : String} (h : PE X e (tC (.ty n))) : PE X e (tD (gx X) (dC (.ty n))) := d_const h fun _ _ => by simp [Rp]
end
section
variable {X : Cx} {e : Expr} {es : List Expr} {fs : M (List D)} {p pos : Pos}
theorem b_len (hm : X.mg "len" = none) (ha : PA X (e :: es) (tA (gx X) fs)) (hg : Gl X "len" := by rfl) (he : starEach (e :: es) X.env = (false, eval e X.env) :: starEach es X.env := by rfl) (hpl : (backTo pos (starEach es X.env)).any (·.1) = false := by rfl) :
    PE X (.Call (.Name "len" p) (e :: es) [] pos) (tD (gx X) (dCall lenD fs)) := d_callB call_len cd_len hg hm PySem.boot_len ha (he := he) (hpl := hpl)
theorem b_all (hc : X.calm = true) (hm : X.mg "all" = none) (ha : PA X (e :: es) (tA (gx X) fs)) (hg : Gl X "all" := by rfl) (he : starEach (e :: es) X.env = (false, eval e X.env) :: starEach es X.env := by rfl) (hpl : (backTo pos (starEach es X.env)).any (·.1) = false := by rfl) :
    PE X (.Call (.Name "all" p) (e :: es) [] pos) (tD (gx X) (dCall allD fs)) := d_callB (cr_all hc) cd_all hg hm (by decide +kernel) ha (he := he) (hpl := hpl)
theorem b_abs (hm : X.mg "abs" = none) (ha : PA X (e :: es) (tA (gx X) fs)) (hg : Gl X "abs" := by rfl) (he : starEach (e :: es) X.env = (false, eval e X.env) :: starEach es X.env := by rfl) (hpl : (backTo pos (starEach es X.env)).any (·.1) = false := by rfl) :
    PE X (.Call (.Name "abs" p) (e :: es) [] pos) (tD (gx X) (dCall absD fs)) := d_callB call_abs cd_abs hg hm (by decide +kernel) ha (he := he) (hpl := hpl)
theorem b_repr (gd : X.A.guards = some []) {k : Nat} (hr : Room k X.A) (hm : X.mg "repr" = none) (ha : PA X (e :: es) (tA (gx X) fs)) (hg : Gl X "repr" := by rfl) (he : starEach (e :: es) X.env = (false, eval e X.env) :: starEach es X.env := by rfl) (hpl : (backTo pos (starEach es X.env)).any (·.1) = false := by rfl) :
    PE X (.Call (.Name "repr" p) (e :: es) [] pos) (tD (gx X) (dCall reprD fs)) := d_callB (call_reprG gd (by have := hr.un; omega)) cd_repr hg hm (by decide +kernel) ha (he := he) (hpl := hpl)
theorem b_isa (hm : X.mg "isinstance" = none) (ha : PA X (e :: es) (tA (gx X) fs)) (hg : Gl X "isinstance" := by rfl) (he : starEach (e :: es) X.env = (false, eval e X.env) :: starEach es X.env := by rfl) (hpl : (backTo pos (starEach es X.env)).any (·.1) = false := by rfl) :
    PE X (.Call (.Name "isinstance" p) (e :: es) [] pos) (tD (gx X) (dCall isaD fs)) := d_callB call_isi cd_isa hg hm (by decide +kernel) ha (he := he) (hpl := hpl)
theorem b_tuple (hm : X.mg "tuple" = none) (ha : PA X (e :: es) (tA (gx X) fs)) (hg : Gl X "tuple" := by rfl) (he : starEach (e :: es) X.env = (false, eval e X.env) :: starEach es X.env := by rfl) (hpl : (backTo pos (starEach es X.env)).any (·.1) = false := by rfl) :
    PE X (.Call (.Name "tuple" p) (e :: es) [] pos) (tD (gx X) (dCall tupleD fs)) := d_callTy call_tuple_of cd_tuple hg hm (by decide +kernel) ha (he := he) (hpl := hpl)
theorem b_int (hm : X.mg "int" = none) (ha : PA X (e :: es) (tA (gx X) fs)) (hg : Gl X "int" := by rfl) (he : starEach (e :: es) X.env = (false, eval e X.env) :: starEach es X.env := by rfl) (hpl : (backTo pos (starEach es X.env)).any (·.1) = false := by rfl) :
    PE X (.Call (.Name "int" p) (e :: es) [] pos) (tD (gx X) (dCall toIntD fs)) := d_callTy call_int1 cd_int hg hm (by decide +kernel) ha (he := he) (hpl := hpl)
end
end DL
set_option Elab.async false
set_option linter.all false
set_option maxRecDepth 100000
set_option maxHeartbeats 4000000
/-! The data layer: targets, what is walked, comprehensions. -/
namespace DL
open PySem PySem.Spec L2
/-! ### targets -/
/-- the slots outside ws stand as they stood -/
def Off (ws : List Nat) (σ σ' : St) : Prop := σ'.length = σ.length ∧ ∀ i, i ∉ ws → σ'[i]? = σ[i]?
theorem Off.refl {ws : List Nat} {σ : St} : Off ws σ σ := ⟨rfl, fun _ _ => rfl⟩
theorem Off.trans {ws : List Nat} {a b c : St} (h : Off ws a b) (k : Off ws b c) : Off ws a c := ⟨k.1.trans h.1, fun i hi => (k.2 i hi).trans (h.2 i hi)⟩
theorem Off.set {ws : List Nat} {σ : St} {i : Nat} {x : Option V} (h : i ∈ ws) : Off ws σ (σ.set i x) := ⟨by simp, fun j hj => List.getElem?_set_ne (fun e => hj (by subst e; exact h))⟩
abbrev TF := D → Env → Option Env
abbrev TFs := List D → Env → Option Env
def tG (g : G) (ws : List Nat) (tf : TF) : TG := fun v σ H Q => ∃ F ρ fps d ρ', EnvR g F H ρ fps σ ∧ Wd F H fps ∧ Rp g F H d v ∧ tf d ρ = some ρ' ∧
  ∀ σ' F' H' fps', Ext F H fps F' H' fps' → EnvR g F' H' ρ' fps' σ' → Wd F' H' fps' → Off ws σ σ' → Q σ' H'
def fName (i : Nat) : TF := fun d ρ => if i < ρ.length then some (ρ.set i (some (.pur d))) else none
def fTup (n : Nat) (r : TFs) : TF := fun d ρ => match d with
  | .tup ds => if ds.length = n then r ds ρ else none
  | .lst ds => if ds.length = n then r ds ρ else none
  | _ => none
/-- a slot is put anew with frozen data -/
theorem EnvR.pur {g : G} {F : AP} {H : Hp} {ρ : Env} {fps : List Addr} {σ : St} {i : Nat} {d : D} {v : V} (en : EnvR g F H ρ fps σ) (w : Wd F H fps) (hi : i < ρ.length) (r : Rp g F H d v) :
    ∃ fps', (∀ x ∈ fps', x ∈ fps) ∧ Wd F H fps' ∧ EnvR g F H (ρ.set i (some (.pur d))) fps' (σ.set i (some v)) := by
  obtain ⟨pre, f, post, rfl, _, k⟩ := en.put i hi
  obtain ⟨_, k2⟩ := k F H (fun a h => ⟨h, rfl⟩) fun _ _ => rfl
  have k3 := k2 (.pur d) [] v (by simp only [RpO]; exact ⟨trivial, r⟩)
  refine ⟨pre ++ ([] ++ post), fun x m => ?_, ?_, k3⟩
  · simp only [List.nil_append, List.mem_append] at m ⊢
    rcases m with m | m <;> simp [m]
  · have := (w.perm (perm_mid ..)).left
    simpa using this
theorem EnvR.drop {g : G} {F : AP} {H : Hp} {ρ : Env} {fps : List Addr} {σ : St} {i : Nat} (en : EnvR g F H ρ fps σ) (w : Wd F H fps) (x : Option V) :
    ∃ fps', (∀ x ∈ fps', x ∈ fps) ∧ Wd F H fps' ∧ EnvR g F H (ρ.set i none) fps' (σ.set i x) := by
  by_cases hi : i < ρ.length
  · obtain ⟨pre, f, post, rfl, _, k⟩ := en.put i hi
    obtain ⟨k1, _⟩ := k F H (fun a h => ⟨h, rfl⟩) fun _ _ => rfl
    refine ⟨pre ++ post, fun x m => ?_, (w.perm (perm_mid ..)).left, k1 x⟩
    simp only [List.mem_append] at m ⊢
    rcases m with m | m <;> simp [m]
  · refine ⟨fps, fun _ m => m, w, ?_⟩
    have hl := en.length
    rw [List.set_eq_of_length_le (by omega), List.set_eq_of_length_le (by omega)]
    exact en
section
variable {X : Cx} {pos : Pos} {ws : List Nat}
theorem g_name {i : Nat} {x : Str} (hN : X.N.Nodup) (hi : X.N[i]? = some x) (hx : Loc X.env.scope x) (hw : ws.contains i = true) (hf : X.fn x = true ∨ X.env.scope.names.lookup x = some .local := by first | exact .inl rfl | exact .inr rfl | assumption) :
    PG X (.Name x pos) (tG (gx X) ws (fName i)) := (pg_name hN hi hx hf).impD fun {v σ H Q} ⟨F, ρ, fps, d, ρ', en, w, r, hf, q⟩ => by
  unfold fName at hf
  split at hf
  · cases hf
    obtain ⟨fps', h1, h2, h3⟩ := en.pur w ‹_› r
    exact q _ F H fps' (Ext.refl.sub h1) h3 h2 (Off.set (by simpa using hw))
  · cases hf
end
/-! ### what is walked -/
def Yl (g : G) (F : AP) (H : Hp) (J : It) (ds : List D) : Prop := ∀ (F2 : AP) (H2 : Hp), (∀ a, F a → F2 a ∧ H2 a = H a) → (∀ a, F2 a → H2 a ≠ none) → ∀ i : Nat,
  (∀ d, ds[i]? = some d → J.go i H2 ∧ ∀ x H3, J.yld i H2 x H3 → ∃ F3, New F2 H2 F3 H3 ∧ Rp g F3 H3 d x) ∧ (ds.length ≤ i → J.stop i H2)
def tI (g : G) (f : M (List D)) : TI := fun σ H R => ∃ F ρ fps ds ρ', EnvR g F H ρ fps σ ∧ Wd F H fps ∧ f ρ = some (ds, ρ') ∧
  ∀ J F' H' fps', Ext F H fps F' H' fps' → EnvR g F' H' ρ' fps' σ → Wd F' H' fps' → Yl g F' H' J ds → R J H'
/-- a list or a tuple -/
def itemsD : D → Option (List D)
  | .lst ds => some ds
  | .tup ds => some ds
  | _ => none
def iSeqM (f : M D) : M (List D) := bnd f fun x => opt (itemsD x)
def iSeq (K : PySem.W.Frag) (tl : TE) : TI := fun σ H R => tl σ H fun x H1 => (∃ a xs, x = .ref a ∧ SqL K H1 a xs ∧ R (Itl K a) H1) ∨ ∃ a xs, x = .ref a ∧ SqT K H1 a xs ∧ R (Itt K a) H1
section
variable {X : Cx} {tg : Expr}
theorem pi_seq {l : Expr} {tl : TE} (hl : PE X l tl) : PI X tg l (iSeq X.K tl) := by
  refine ⟨fun pins s σ H R I h => thn (hl.run pins s σ H _ I h) fun v s1 ⟨x, H1, I1, r1, q1⟩ => ?_⟩
  have fp : ∀ b ∈ [s1.heap.objs.size], FpOk X pins H1 b := fun b hb => by
    rw [List.mem_singleton.mp hb]
    exact I1.fpOk (Nat.le_refl _) (I1.hok.fresh (Nat.le_refl _))
  rcases q1 with ⟨a, xs, rfl, hq, q⟩ | ⟨a, xs, rfl, hq, q⟩
  · cases r1
    obtain ⟨its, _, pl, _⟩ := I1.list hq
    exact wpAny_pyIter_list pl.isList ⟨_, _, _, _, H1, rfl, I1.kept (t' := s1.toks) fun b o e => Heap.get?_push_of_some _ e, turn_list a _, ⟨_, Heap.get?_push_size _ rfl, rfl, rfl⟩, fp, q⟩
  · cases r1
    obtain ⟨its, _, pl, _⟩ := I1.tuple hq
    exact wpAny_pyIter_tuple (show s1.heap.IsTuple a its.toArray from pl) ⟨_, _, _, _, H1, rfl, I1.kept (t' := s1.toks) fun b o e => Heap.get?_push_of_some _ e, turn_tuple a _, ⟨_, Heap.get?_push_size _ rfl, rfl, rfl⟩, fp, q⟩
theorem get_len {α : Type} {l : List α} {i : Nat} {x : α} (h : l[i]? = some x) : i < l.length := (List.getElem?_eq_some_iff.mp h).1
theorem i_seq {l : Expr} {f : M D} (hl : PE X l (tD (gx X) f)) : PI X tg l (tI (gx X) (iSeqM f)) := (pi_seq hl).impD fun {σ H R} ⟨F, ρ, fps, ds, ρ', en, w, hf, q⟩ => by
  obtain ⟨x, ρ1, h1, h2⟩ := bnd_some.mp hf
  obtain ⟨h3, rfl⟩ := opt_some.mp h2
  refine ⟨F, ρ, fps, x, _, en, w, h1, fun F1 H1 p1 v x1 e1 w1 r1 => ?_⟩
  unfold itemsD at h3
  split at h3
  · cases h3
    simp only [Rp] at r1
    obtain ⟨a, vs, rfl, fa, e, k⟩ := r1
    refine .inl ⟨a, vs, rfl, .of e, q _ F1 H1 p1 x1 e1 w1 fun F2 H2 m fr i => ?_⟩
    have sq : SqL X.K H2 a vs := .of ((m a fa).2.trans e)
    have k2 := Rps.mono m _ _ k
    refine ⟨fun d hd => ?_, fun hi => ⟨vs, sq, by rw [← k.length]; exact hi⟩⟩
    obtain ⟨u, hu, ru⟩ := k2.get hd
    refine ⟨⟨vs, u, sq, hu⟩, fun y H3 ⟨e3, e4⟩ => ?_⟩
    subst e3
    have e5 := e4 vs sq
    rw [hu] at e5; cases e5
    exact ⟨F2, .refl fr, ru⟩
  · cases h3
    simp only [Rp] at r1
    obtain ⟨a, vs, rfl, ta, k⟩ := r1
    refine .inr ⟨a, vs, rfl, ta.sq, q _ F1 H1 p1 x1 e1 w1 fun F2 H2 m fr i => ?_⟩
    have sq : SqT X.K H2 a vs := (TupAt.mono (g := gx X) m ta).sq
    have k2 := Rps.mono m _ _ k
    refine ⟨fun d hd => ?_, fun hi => ⟨vs, sq, by rw [← k.length]; exact hi⟩⟩
    obtain ⟨u, hu, ru⟩ := k2.get hd
    refine ⟨⟨vs, u, sq, hu⟩, fun y H3 ⟨e3, e4⟩ => ?_⟩
    subst e3
    have e5 := e4 vs sq
    rw [hu] at e5; cases e5
    exact ⟨F2, .refl fr, ru⟩
  · cases h3
/-! range -/
def rangeB (i : Int) : Bool := decide (-(2 ^ 62) ≤ i ∧ i < 2 ^ 62)
def rangeD1 : List D → Option (List D)
  | [.int j] => if rangeB j then some ((List.range j.toNat).map fun (k : Nat) => .int (0 + (k : Int))) else none
  | _ => none
def iArgsM (op : List D → Option (List D)) (f : M (List D)) : M (List D) := bnd f fun x => opt (op x)
theorem rangeB_ok {i : Int} (h : rangeB i = true) : -(2 ^ 62) ≤ i ∧ i < 2 ^ 62 := of_decide_eq_true (p := -(2 ^ 62) ≤ i ∧ i < 2 ^ 62) h
theorem yl_range {g : G} {F : AP} {H : Hp} {lo : Int} {n : Nat} : Yl g F H (Itr lo n) ((List.range n).map fun (k : Nat) => .int (lo + (k : Int))) := fun F2 H2 m fr i => by
  refine ⟨fun d hd => ?_, fun hi => by show n ≤ i; simpa using hi⟩
  have hi : i < n := by have := get_len hd; simpa using this
  refine ⟨hi, fun y H3 ⟨e3, e4⟩ => ?_⟩
  subst e3 e4
  simp [List.getElem?_map, List.getElem?_range hi] at hd
  subst hd
  exact ⟨F2, .refl fr, by simp [Rp]⟩
theorem rd_iargs {g : G} {wi : (List V → Hp → (It → Hp → Prop) → Prop)} {op : List D → Option (List D)} {fs : M (List D)} {σ : St} {H : Hp} {R : It → Hp → Prop}
    (hr : ∀ (F : AP) (H : Hp) (vs : List V) (ds items : List D) (R : It → Hp → Prop), (∀ a, F a → H a ≠ none) → Rps g F H ds vs → op ds = some items → (∀ J, Yl g F H J items → R J H) → wi vs H R)
    (h : tI g (iArgsM op fs) σ H R) : tA g fs σ H fun vs H1 => wi vs H1 R := by
  obtain ⟨F, ρ, fps, ds, ρ', en, w, hf, q⟩ := h
  obtain ⟨x, ρ1, h1, h2⟩ := bnd_some.mp hf
  obtain ⟨h3, rfl⟩ := opt_some.mp h2
  exact ⟨F, ρ, fps, x, _, en, w, h1, fun F1 H1 p1 v x1 e1 w1 r1 => hr F1 H1 v x ds R w1.fro r1 h3 fun J y => q J F1 H1 p1 x1 e1 w1 y⟩
theorem i_range1 {a : Expr} {fs : M (List D)} {p pos : Pos} (hm : X.mg "range" = none) (ha : PA X [a] (tA (gx X) fs)) (hg : Gl X "range" := by rfl) (hs : starEach [a] X.env = [(false, eval a X.env)] := by rfl) :
    PI X tg (.Call (.Name "range" p) [a] [] pos) (tI (gx X) (iArgsM rangeD1 fs)) := (pi_range1 hg hm ha hs).impD fun h => rd_iargs (wi := fun vs H1 R => ∃ j : Int, vs = [.int j] ∧ -(2 ^ 62) ≤ j ∧ j < 2 ^ 62 ∧ R (Itr 0 j.toNat) H1) (fun F H vs ds items R fr r e q => by
  unfold rangeD1 at e
  split at e
  · split at e
    · rename_i hb
      cases e
      obtain ⟨u, rfl, r2⟩ := Rps.one.mp r
      simp only [Rp] at r2
      subst r2
      exact ⟨_, rfl, (rangeB_ok hb).1, (rangeB_ok hb).2, q _ yl_range⟩
    · cases e
  · cases e) h
/-! enumerate, zip, reversed -/
end
end DL
set_option Elab.async false
set_option linter.all false
set_option maxRecDepth 100000
set_option maxHeartbeats 4000000
/-! The data layer: comprehensions. -/
namespace DL
open PySem PySem.Spec L2
def wipeE (ρ : Env) : List Nat → Env
  | [] => ρ
  | v :: vs => (wipeE ρ vs).set v none
/-- the slots own hold again what they held in ρ0, if that was frozen -/
def keepE (ρ0 : Env) : List Nat → Env → Env
  | [], ρ => ρ
  | v :: vs, ρ => keepE ρ0 vs (match ρ0[v]? with
    | some (some (.pur d)) => ρ.set v (some (.pur d))
    | _ => ρ.set v none)
section
variable {g : G} {F F' : AP} {H H' : Hp} {ρ ρ0 : Env} {fps fps0 : List Addr} {σ τ : St}
theorem EnvR.wipe (en : EnvR g F H ρ fps σ) (w : Wd F H fps) : ∀ vs : List Nat, ∃ fps', (∀ x ∈ fps', x ∈ fps) ∧ Wd F H fps' ∧ EnvR g F H (wipeE ρ vs) fps' (L2.wipe σ vs)
  | [] => ⟨fps, fun _ m => m, w, en⟩
  | v :: vs => by
    obtain ⟨f1, h1, h2, h3⟩ := EnvR.wipe en w vs
    obtain ⟨f2, k1, k2, k3⟩ := h3.drop h2 (i := v) none
    exact ⟨f2, fun x m => h1 x (k1 x m), k2, k3⟩
theorem EnvR.keep : ∀ {vs : List Nat} {ρ : Env} {fps : List Addr} {τ : St}, EnvR g F H ρ fps τ → Wd F H fps → EnvR g F' H' ρ0 fps0 σ → (∀ a, F' a → F a ∧ H a = H' a) → Off vs σ τ →
    ∃ fps', (∀ x ∈ fps', x ∈ fps) ∧ Wd F H fps' ∧ EnvR g F H (keepE ρ0 vs ρ) fps' σ
  | [], ρ, fps, τ, en, w, e0, m, off => by
    have : τ = σ := List.ext_getElem? fun i => off.2 i (by simp)
    subst this
    exact ⟨fps, fun _ m => m, w, en⟩
  | v :: vs, ρ, fps, τ, en, w, e0, m, off => by
    unfold keepE
    have off2 : ∀ x, (σ[v]? = some x ∨ σ.length ≤ v) → Off vs σ (τ.set v x) := fun x hx => by
      refine ⟨by simpa using off.1, fun i hi => ?_⟩
      by_cases e : v = i
      · subst e
        rcases hx with hx | hx
        · have hl : v < τ.length := by rw [off.1]; exact get_len hx
          rw [List.getElem?_set_self hl, hx]
        · rw [List.getElem?_eq_none (by simpa [off.1] using hx), List.getElem?_eq_none hx]
      · rw [List.getElem?_set_ne e]
        exact off.2 i (by simp only [List.mem_cons, not_or]; exact ⟨fun q => e q.symm, hi⟩)
    have hlen : ρ.length = σ.length := by rw [en.length]; exact off.1
    have hlen0 := e0.length
    split
    · rename_i d hd
      obtain ⟨u, pre, f, post, hs, _, r, _⟩ := e0.at hd
      simp only [RpO] at r
      have r2 := Rp.mono m d u r.2
      have hv : v < ρ.length := by rw [hlen, ← hlen0]; exact get_len hd
      obtain ⟨f1, h1, h2, h3⟩ := en.pur w hv r2
      obtain ⟨f2, k1, k2, k3⟩ := EnvR.keep (vs := vs) h3 h2 e0 m (off2 (some u) (.inl hs))
      exact ⟨f2, fun x m => h1 x (k1 x m), k2, k3⟩
    · obtain ⟨x, hx⟩ : ∃ x, σ[v]? = some x ∨ σ.length ≤ v := by
        by_cases q : v < σ.length
        · exact ⟨σ[v], .inl (by simp [q])⟩
        · exact ⟨none, .inr (by omega)⟩
      obtain ⟨f1, h1, h2, h3⟩ := en.drop w (i := v) x
      obtain ⟨f2, k1, k2, k3⟩ := EnvR.keep (vs := vs) h3 h2 e0 m (off2 x hx)
      exact ⟨f2, fun x m => h1 x (k1 x m), k2, k3⟩
theorem wipe_get : ∀ {vs : List Nat} {i : Nat}, (L2.wipe σ vs)[i]? = if i ∈ vs ∧ i < σ.length then some none else σ[i]?
  | [], i => by simp [L2.wipe]
  | v :: vs, i => by
    unfold L2.wipe
    by_cases e : v = i
    · subst e
      by_cases hl : v < σ.length
      · rw [List.getElem?_set_self (by rw [wipe_length]; exact hl)]; simp [hl]
      · rw [List.getElem?_eq_none (by simp [wipe_length]; omega), if_neg (by omega), List.getElem?_eq_none (by omega)]
    · rw [List.getElem?_set_ne e, wipe_get]
      have : (i ∈ v :: vs) = (i ∈ vs) := by simp [Ne.symm e]
      simp only [this]
theorem wipe_off {vs : List Nat} (off : Off vs σ τ) : L2.wipe τ vs = L2.wipe σ vs := List.ext_getElem? fun i => by
  rw [wipe_get, wipe_get, off.1]
  by_cases q : i ∈ vs ∧ i < σ.length
  · rw [if_pos q, if_pos q]
  · rw [if_neg q, if_neg q]
    by_cases h : i ∈ vs
    · have hn : ¬ i < σ.length := fun hl => q ⟨h, hl⟩
      rw [List.getElem?_eq_none (by rw [off.1]; omega), List.getElem?_eq_none (by omega)]
    · exact off.2 i h
theorem off_wipe {vs : List Nat} : Off vs σ (L2.wipe σ vs) := ⟨wipe_length σ vs, fun i hi => by rw [wipe_get, if_neg (by simp [hi])]⟩
theorem RpOs.snoc : ∀ {os : List O} {f1 f2 : List Addr} {vs : List V} {o : O} {v : V}, RpOs g F H os f1 vs → RpO g F H o f2 v → RpOs g F H (os ++ [o]) (f1 ++ f2) (vs ++ [v])
  | [], f1, f2, vs, o, v, h, k => by
    simp only [RpOs] at h
    obtain ⟨rfl, rfl⟩ := h
    simp only [List.nil_append, RpOs]
    exact ⟨v, [], f2, [], rfl, by simp, k, rfl, rfl⟩
  | p :: os, f1, f2, vs, o, v, h, k => by
    simp only [RpOs] at h
    obtain ⟨u, r, a, b, rfl, rfl, h1, h2⟩ := h
    simp only [List.cons_append, RpOs]
    exact ⟨u, r ++ [v], a, b ++ f2, rfl, by simp, h1, RpOs.snoc h2 k⟩
end
/-! ### the turns of a comprehension -/
def compGo (own : List Nat) (tg : TF) (ct : M Bool) (el : M O) : List D → Env → List O → Option (List O × Env)
  | [], ρ, acc => some (acc, ρ)
  | d :: ds, ρ, acc => match tg d ρ with
    | none => none
    | some ρ1 => match ct ρ1 with
      | none => none
      | some (false, ρ2) => compGo own tg ct el ds (wipeE ρ2 own) acc
      | some (true, ρ2) => match el ρ2 with
        | none => none
        | some (o, ρ3) => if acc.length < sizeLine then compGo own tg ct el ds (wipeE ρ3 own) (acc ++ [o]) else none
def eComp (own : List Nat) (it : M (List D)) (tg : TF) (ct : M Bool) (el : M O) : M O := bnd it fun ds ρ => match compGo own tg ct el ds (wipeE ρ own) [] with
  | some (os, ρ') => some (.lst os, keepE ρ own ρ')
  | none => none
def tYesM : M Bool := ret true
theorem RpOs.len {g : G} {F : AP} {H : Hp} : ∀ {os : List O} {f : List Addr} {vs : List V}, RpOs g F H os f vs → os.length = vs.length
  | [], f, vs, h => by simp only [RpOs] at h; rw [h.2]; rfl
  | o :: os, f, vs, h => by
    simp only [RpOs] at h
    obtain ⟨v, r, a, b, rfl, rfl, h1, h2⟩ := h
    simp [RpOs.len h2]
/-- a list of one's own grows by an item -/
theorem Ext.put {F : AP} {H : Hp} {L : List Addr} {p : Addr} {o : HO} (hp : p ∈ L) : Ext F H L F (upd H p o) L where
  fF := fun _ h => h
  keep := fun a _ n => upd_ne fun e => n (e ▸ hp)
  dom := fun a h => by
    by_cases e : a = p
    · subst e; rw [upd_same]; simp
    · rw [upd_ne e]; exact h
  own := fun _ m => .inl m
  newF := fun _ h => .inl h
theorem Wd.put {F : AP} {H : Hp} {L : List Addr} {p : Addr} {o : HO} (w : Wd F H L) : Wd F (upd H p o) L where
  nd := w.nd
  own := fun a m => ⟨by
    by_cases e : a = p
    · subst e; rw [upd_same]; simp
    · rw [upd_ne e]; exact (w.own a m).1, (w.own a m).2⟩
  fro := fun a f => by
    by_cases e : a = p
    · subst e; rw [upd_same]; simp
    · rw [upd_ne e]; exact w.fro a f
section
variable {X : Cx} {elt tg iter : Expr} {ifs : List Expr} {scope : Scope} {own : List (Str × Nat)} {pos : Pos}
theorem rd_comp {g : G} {vs : List Nat} {it : M (List D)} {tf : TF} {ct : M Bool} {el : M O} {σ : St} {H : Hp} {Q : VK}
    (h : tE g (eComp vs it tf ct el) σ H Q) : tLc (tI g it) (tG g vs tf) (tT g ct) (tE g el) vs σ H Q := by
  obtain ⟨F, ρ, fps, o, ρ', en, w, hf, q⟩ := h
  obtain ⟨ds, ρ1, h1, h2⟩ := bnd_some.mp hf
  split at h2
  · rename_i os ρ2 hgo
    cases h2
    refine ⟨F, ρ, fps, ds, ρ1, en, w, h1, fun J F1 H1 p1 x1 e1 w1 yl Dd hD => ?_⟩
    -- the invariant
    let W : Nat → Nat → Hp → Prop := fun i m Hi => m = ds.length - i ∧ i ≤ ds.length ∧ ∃ (Fi : AP) (ρi : Env) (fi fa : List Addr) (acc : List O) (us : List V),
      Ext F1 H1 p1 Fi Hi (fi ++ (Dd :: fa)) ∧ EnvR g Fi Hi ρi fi (L2.wipe σ vs) ∧ Wd Fi Hi (fi ++ (Dd :: fa)) ∧ Hi Dd = some (.lst us) ∧ RpOs g Fi Hi acc fa us ∧
      compGo vs tf ct el (ds.drop i) ρi acc = some (os, ρ2)
    refine ⟨W, ⟨ds.length, ?_⟩, ?_⟩
    · -- the start
      obtain ⟨f0, k1, k2, k3⟩ := e1.wipe w1 vs
      have nf : ¬ F1 Dd := fun z => w1.fro Dd z hD
      have ne : ∀ a, H1 a ≠ none → a ≠ Dd := fun a h e => h (e ▸ hD)
      refine ⟨by simp, Nat.zero_le _, F1, wipeE ρ1 vs, f0, [], [], [], ⟨fun _ h => h, fun a h _ => upd_ne (ne a h), fun a h => by rw [upd_ne (ne a h)]; exact h, fun a m => ?_, fun _ h => .inl h⟩,
        k3.mono (fun a h => ⟨h, upd_ne (ne a (w1.fro a h))⟩) (fun a m => upd_ne (ne a (k2.own a m).1)), ⟨?_, fun a m => ?_, fun a h => by rw [upd_ne (ne a (w1.fro a h))]; exact w1.fro a h⟩, upd_same, by simp [RpOs], by simpa using hgo⟩
      · rcases List.mem_append.mp m with m | m
        · exact .inl (k1 a m)
        · rw [List.mem_singleton.mp m]; exact .inr hD
      · refine List.nodup_append.mpr ⟨k2.nd, by simp, fun a m b mb => ?_⟩
        rw [List.mem_singleton.mp mb]
        exact ne a (k2.own a m).1
      · rcases List.mem_append.mp m with m | m
        · exact ⟨by rw [upd_ne (ne a (k2.own a m).1)]; exact (k2.own a m).1, (k2.own a m).2⟩
        · rw [List.mem_singleton.mp m]; exact ⟨by rw [upd_same]; simp, nf⟩
    · -- a turn
      rintro i m Hi ⟨hm, hi, Fi, ρi, fi, fa, acc, us, xi, ei, wi, hDi, ri, goi⟩
      have fz := xi.frozen w1
      obtain ⟨y1, y2⟩ := yl Fi Hi fz wi.fro i
      by_cases hlt : i < ds.length
      · have hd : ds[i]? = some ds[i] := by simp [hlt]
        obtain ⟨go, yld⟩ := y1 _ hd
        refine .inr ⟨go, W (i + 1) (ds.length - (i + 1)), fun H' k => ⟨_, by omega, k⟩, fun x H' y => ?_⟩
        obtain ⟨F3, n3, r3⟩ := yld x H' y
        rw [List.drop_eq_getElem_cons hlt] at goi
        unfold compGo at goi
        split at goi
        · cases goi
        · rename_i ρa hta
          obtain ⟨x3, e3, w3⟩ := n3.go ei wi.left
          obtain ⟨wb3, st3⟩ := x3.beside wi w3
          refine ⟨F3, ρi, fi, _, ρa, e3, w3, r3, hta, fun σ4 F4 H4 p4 x4 e4 w4 off4 => ?_⟩
          have hw4 : L2.wipe σ4 vs = L2.wipe σ vs := by
            rw [wipe_off off4, wipe_off off_wipe]
          refine ⟨hw4, ?_⟩
          split at goi
          · cases goi
          · -- the test says no
            rename_i ρb hct
            refine ⟨F4, ρa, p4, false, ρb, e4, w4, hct, fun F5 H5 p5 x5 e5 w5 => ?_⟩
            show W (i + 1) (ds.length - (i + 1)) H5
            have X5 := (x3.trans x4).trans x5
            obtain ⟨wb, st⟩ := X5.beside wi w5
            obtain ⟨f6, k1, k2, k3⟩ := e5.wipe w5 vs
            rw [hw4] at k3
            refine ⟨rfl, hlt, F5, _, f6, fa, acc, us, ?_, k3, ?_, by rw [st Dd (by simp)]; exact hDi, RpOs.mono (X5.frozen wi.left) _ _ _ (fun a m => st a (by simp [m])) ri, goi⟩
            · refine (xi.trans X5.wide).sub fun a m => ?_
              simp only [List.mem_append] at m ⊢
              exact m.imp (k1 a) id
            · refine wb.sub (List.nodup_append.mpr ⟨k2.nd, (List.nodup_append.mp wb.nd).2.1, fun a m b mb => (List.nodup_append.mp wb.nd).2.2 a (k1 a m) b mb⟩) fun a m => ?_
              simp only [List.mem_append] at m ⊢
              exact m.imp (k1 a) id
          · -- an item more
            rename_i ρb hct
            refine ⟨F4, ρa, p4, true, ρb, e4, w4, hct, fun F5 H5 p5 x5 e5 w5 => ?_⟩
            show tE g el σ4 H5 fun y H4 => ∃ acc, H4 Dd = some (.lst acc) ∧ acc.length < sizeLine ∧ W (i + 1) (ds.length - (i + 1)) (upd H4 Dd (.lst (acc ++ [y])))
            split at goi
            · cases goi
            · rename_i o ρc hel
              refine ⟨F5, ρb, p5, o, ρc, e5, w5, hel, fun F6 H6 p6 fp v x6 e6 w6 r6 => ?_⟩
              split at goi
              · rename_i hsz
                have X6 := ((x3.trans x4).trans x5).trans x6
                obtain ⟨wb, st⟩ := X6.beside wi w6
                have ri6 := RpOs.mono (X6.frozen wi.left) _ _ _ (fun a m => st a (by simp [m])) ri
                have hD6 : H6 Dd = some (.lst us) := by rw [st Dd (by simp)]; exact hDi
                refine ⟨us, hD6, by rw [← ri.len]; exact hsz, rfl, hlt, ?_⟩
                obtain ⟨f7, k1, k2, k3⟩ := e6.wipe w6.left vs
                rw [hw4] at k3
                -- the places, told in the invariant's order
                have nd := List.nodup_append.mp wb.nd
                have hDn : ∀ a ∈ p6 ++ fp, a ≠ Dd := fun a m e => nd.2.2 a m Dd (by simp) e
                have hDfa : ∀ a ∈ fa, a ≠ Dd := fun a m e => (List.nodup_cons.mp nd.2.1).1 (e ▸ m)
                have nF : ¬ F6 Dd := (wb.own Dd (by simp)).2
                have mF : ∀ a, F6 a → F6 a ∧ upd H6 Dd (.lst (us ++ [v])) a = H6 a := fun a h => ⟨h, upd_ne fun e => nF (e ▸ h)⟩
                have sub : ∀ a ∈ f7 ++ (Dd :: (fa ++ fp)), a ∈ (p6 ++ fp) ++ (Dd :: fa) := fun a m => by
                  simp only [List.mem_append, List.mem_cons] at m ⊢
                  rcases m with m | m | m | m
                  · exact .inl (.inl (k1 a m))
                  · exact .inr (.inl m)
                  · exact .inr (.inr m)
                  · exact .inl (.inr m)
                have ndn : (f7 ++ (Dd :: (fa ++ fp))).Nodup := by
                  have n1 := nd.1
                  have n2 := List.nodup_append.mp n1
                  refine List.nodup_append.mpr ⟨k2.nd, List.nodup_cons.mpr ⟨fun z => ?_, List.nodup_append.mpr ⟨(List.nodup_cons.mp nd.2.1).2, n2.2.1, fun a m b mb e => nd.2.2 b (List.mem_append_right _ mb) a (by simp [m]) e.symm⟩⟩, fun a m b mb e => ?_⟩
                  · rcases List.mem_append.mp z with z | z
                    · exact hDfa Dd z rfl
                    · exact hDn Dd (List.mem_append_right _ z) rfl
                  · subst e
                    rcases List.mem_cons.mp mb with z | z
                    · exact hDn a (List.mem_append_left _ (k1 a m)) z
                    · rcases List.mem_append.mp z with z | z
                      · exact nd.2.2 a (List.mem_append_left _ (k1 a m)) a (by simp [z]) rfl
                      · exact n2.2.2 a (k1 a m) a z rfl
                refine ⟨F6, _, f7, fa ++ fp, acc ++ [o], us ++ [v], ?_, ?_, ?_, upd_same, ?_, goi⟩
                · exact ((xi.trans X6.wide).trans (Ext.put (by simp))).sub sub
                · exact k3.mono mF fun a m => upd_ne (hDn a (List.mem_append_left _ (k1 a m)))
                · exact (wb.sub ndn sub).put
                · exact RpOs.snoc (RpOs.mono mF _ _ _ (fun a m => upd_ne (hDfa a m)) ri6) (RpO.mono mF _ _ _ (fun a m => upd_ne (hDn a (List.mem_append_right _ m))) r6)
              · cases goi
      · -- the end
        have e : i = ds.length := by omega
        subst e
        refine .inl ⟨y2 (Nat.le_refl _), ?_⟩
        rw [List.drop_length] at goi
        unfold compGo at goi
        cases goi
        obtain ⟨f7, k1, k2, k3⟩ := ei.keep wi.left e1 fz off_wipe
        have nd := List.nodup_append.mp wi.nd
        refine q Fi Hi f7 (Dd :: fa) (.ref Dd) (x1.trans (xi.sub fun a m => ?_)) k3 (wi.sub (List.nodup_append.mpr ⟨k2.nd, nd.2.1, fun a m b mb => nd.2.2 a (k1 a m) b mb⟩) fun a m => ?_) ?_
        · simp only [List.mem_append] at m ⊢
          exact m.imp (k1 a) id
        · simp only [List.mem_append] at m ⊢
          exact m.imp (k1 a) id
        · simp only [RpO]
          exact ⟨Dd, us, fa, rfl, hDi, ri, rfl⟩
  · cases h2
theorem ts_nil : PTs X [] (tT (gx X) tYesM) := pts_nil.impD fun {σ H Q} ⟨F, ρ, fps, d, ρ', en, w, hf, q⟩ => by
  obtain ⟨rfl, rfl⟩ := ret_some.mp hf
  exact q F H fps .refl en w
theorem e_comp {it : M (List D)} {tf : TF} {ct : M Bool} {el : M O} (hc : X.calm = true) (hN : X.N.Nodup) (hi : PI X tg iter (tI (gx X) it)) (ok : BlkOk X.N X.env.scope scope own)
    (hg : ∀ (s : Shared) (H : Hp) (C : Addr) (cl : List (Str × Addr)) (fp : List Addr), PG (X.blk s H scope (compEnvC scope cl C X.env) fp) tg (tG (gx X) (own.map (·.2)) tf))
    (ht : ∀ (s : Shared) (H : Hp) (C : Addr) (cl : List (Str × Addr)) (fp : List Addr), PTs (X.blk s H scope (compEnvC scope cl C X.env) fp) ifs (tT (gx X) ct))
    (he : ∀ (s : Shared) (H : Hp) (C : Addr) (cl : List (Str × Addr)) (fp : List Addr), PE (X.blk s H scope (compEnvC scope cl C X.env) fp) elt (tE (gx X) el))
    (hs : ∀ x, foldedSetIterable iter X.env x = pure x := by intro _; rfl) : PE X (.ListComp elt [⟨tg, iter, ifs, 0⟩] scope pos) (tE (gx X) (eComp (own.map (·.2)) it tf ct el)) :=
  (pe_lc hc hN hi ok hg ht he hs).impD rd_comp
end
end DL
set_option Elab.async false
set_option linter.all false
set_option maxRecDepth 100000
set_option maxHeartbeats 4000000
/-! The data layer: statements, loops. -/
namespace DL
open PySem PySem.Spec L2
/-! ### arguments that stay owned -/
def tAE (g : G) (f : M (List O)) : TA := fun σ H Q => ∃ F ρ fps os ρ', EnvR g F H ρ fps σ ∧ Wd F H fps ∧ f ρ = some (os, ρ') ∧
  ∀ F' H' fps' fp vs, Ext F H fps F' H' (fps' ++ fp) → EnvR g F' H' ρ' fps' σ → Wd F' H' (fps' ++ fp) → RpOs g F' H' os fp vs → Q vs H'
def eaNil : M (List O) := ret []
def eaCons (f : M O) (r : M (List O)) : M (List O) := bnd f fun x => bnd r fun xs => ret (x :: xs)
section
variable {X : Cx} {e : Expr} {es : List Expr} {f : M O} {fs : M (List O)} {pos : Pos}
theorem ea_nil : PA X [] (tAE (gx X) eaNil) := pa_nil.impD fun {σ H Q} ⟨F, ρ, fps, d, ρ', en, w, hf, q⟩ => by
  obtain ⟨rfl, rfl⟩ := ret_some.mp hf
  exact q F H fps [] [] (by simpa using Ext.refl) en (by simpa using w) (by simp [RpOs])
theorem ea_cons (ha : PE X e (tE (gx X) f)) (hr : PA X es (tAE (gx X) fs)) (hs : starEach (e :: es) X.env = (false, eval e X.env) :: starEach es X.env := by rfl) : PA X (e :: es) (tAE (gx X) (eaCons f fs)) := (pa_cons ha hr hs).impD fun {σ H Q} ⟨F, ρ, fps, d, ρ', en, w, hf, q⟩ => by
  obtain ⟨x, ρ1, h1, h2⟩ := bnd_some.mp hf
  obtain ⟨xs, ρ2, h3, h4⟩ := bnd_some.mp h2
  obtain ⟨rfl, rfl⟩ := ret_some.mp h4
  refine ⟨F, ρ, fps, _, _, en, w, h1, fun F1 H1 p1 fp1 v x1 e1 w1 r1 => ⟨F1, ρ1, p1, xs, _, e1, w1.left, h3, fun F2 H2 p2 fp2 vs x2 e2 w2 r2 => ?_⟩⟩
  obtain ⟨wb, st⟩ := x2.beside w1 w2
  have pm : ((p2 ++ fp2) ++ fp1).Perm (p2 ++ (fp1 ++ fp2)) := List.perm_iff_count.mpr fun a => by simp only [List.count_append]; omega
  refine q F2 H2 p2 (fp1 ++ fp2) (v :: vs) ((x1.trans x2.wide).perm pm) e2 (wb.perm pm) ?_
  simp only [RpOs]
  exact ⟨v, vs, fp1, fp2, rfl, rfl, RpO.mono (x2.frozen w1.left) _ _ _ st r1, r2⟩
/-- a list of one's own, of written items -/
def eLst (f : M (List O)) : M O := bnd f fun xs => opt (if xs.length ≤ sizeLine then some (.lst xs) else none)
def eTup (f : M (List O)) : M O := bnd f fun xs => opt (if xs.length ≤ sizeLine then some (.tup xs) else none)
theorem Wd.laidO {F : AP} {H : Hp} {L : List Addr} {p : Addr} {o : HO} (w : Wd F H L) (hp : H p = none) : Wd F (upd H p o) (p :: L) := by
  have ne : ∀ a, H a ≠ none → a ≠ p := fun a h e => h (e ▸ hp)
  refine ⟨List.nodup_cons.mpr ⟨fun m => (w.own p m).1 hp, w.nd⟩, fun a m => ?_, fun a f => by rw [upd_ne (ne a (w.fro a f))]; exact w.fro a f⟩
  rcases List.mem_cons.mp m with rfl | m
  · exact ⟨by rw [upd_same]; simp, fun f => w.fro a f hp⟩
  · exact ⟨by rw [upd_ne (ne a (w.own a m).1)]; exact (w.own a m).1, (w.own a m).2⟩
theorem Ext.laidO {F : AP} {H : Hp} {L : List Addr} {p : Addr} {o : HO} (hp : H p = none) : Ext F H L F (upd H p o) (p :: L) := by
  have ne : ∀ a, H a ≠ none → a ≠ p := fun a h e => h (e ▸ hp)
  exact ⟨fun _ h => h, fun a h _ => upd_ne (ne a h), fun a h => by rw [upd_ne (ne a h)]; exact h, fun a m => (List.mem_cons.mp m).elim (fun z => .inr (z ▸ hp)) .inl, fun _ h => .inl h⟩
theorem e_lst (h : PA X es (tAE (gx X) fs)) : PE X (.List es pos) (tE (gx X) (eLst fs)) := (pe_lst h).impD fun {σ H Q} ⟨F, ρ, fps, d, ρ', en, w, hf, q⟩ => by
  obtain ⟨xs, ρ1, h1, h2⟩ := bnd_some.mp hf
  obtain ⟨h3, rfl⟩ := opt_some.mp h2
  split at h3
  · cases h3
    refine ⟨F, ρ, fps, _, _, en, w, h1, fun F1 H1 p1 fp1 vs x1 e1 w1 r1 => ⟨by rw [← r1.len]; assumption, fun p hp => ?_⟩⟩
    have ne : ∀ a, H1 a ≠ none → a ≠ p := fun a h e => h (e ▸ hp)
    have pm : (p :: (p1 ++ fp1)).Perm (p1 ++ (p :: fp1)) := List.perm_middle.symm
    have mF : ∀ a, F1 a → F1 a ∧ upd H1 p (.lst vs) a = H1 a := fun a h => ⟨h, upd_ne (ne a (w1.fro a h))⟩
    refine q F1 _ p1 (p :: fp1) (.ref p) ((x1.trans (Ext.laidO hp)).perm pm) (e1.mono mF fun a m => upd_ne (ne a (w1.own a (by simp [m])).1)) ((w1.laidO hp).perm pm) ?_
    simp only [RpO]
    exact ⟨p, vs, fp1, rfl, upd_same, RpOs.mono mF _ _ _ (fun a m => upd_ne (ne a (w1.own a (by simp [m])).1)) r1, rfl⟩
  · cases h3
end
/-! ### statements -/
inductive Out where
  | nx (ρ : Env) | rt (o : O) (ρ : Env) | bk (ρ : Env) | ct (ρ : Env)
abbrev MS := Env → Option Out
def OutP (g : G) (ws : List Nat) (F : AP) (H : Hp) (fps : List Addr) (σ : St) (E : Ends) : Out → Prop
  | .nx ρ' => ∀ σ' F' H' fps', Ext F H fps F' H' fps' → EnvR g F' H' ρ' fps' σ' → Wd F' H' fps' → Off ws σ σ' → E.nx σ' H'
  | .bk ρ' => ∀ σ' F' H' fps', Ext F H fps F' H' fps' → EnvR g F' H' ρ' fps' σ' → Wd F' H' fps' → Off ws σ σ' → E.bk σ' H'
  | .ct ρ' => ∀ σ' F' H' fps', Ext F H fps F' H' fps' → EnvR g F' H' ρ' fps' σ' → Wd F' H' fps' → Off ws σ σ' → E.ct σ' H'
  | .rt o ρ' => ∀ σ' F' H' fps' fp v, Ext F H fps F' H' (fps' ++ fp) → EnvR g F' H' ρ' fps' σ' → Wd F' H' (fps' ++ fp) → RpO g F' H' o fp v → Off ws σ σ' → E.rt v H'
def tS (g : G) (ws : List Nat) (f : MS) : TS := fun E σ H => ∃ F ρ fps out, EnvR g F H ρ fps σ ∧ Wd F H fps ∧ f ρ = some out ∧ OutP g ws F H fps σ E out
theorem OutP.step {g : G} {ws : List Nat} {F F1 : AP} {H H1 : Hp} {fps p1 : List Addr} {σ σ1 : St} {E : Ends} {out : Out} (x : Ext F H fps F1 H1 p1) (o : Off ws σ σ1) (h : OutP g ws F H fps σ E out) : OutP g ws F1 H1 p1 σ1 E out := by
  cases out with
  | nx ρ => exact fun σ' F' H' p' x' e w o' => h σ' F' H' p' (x.trans x') e w (o.trans o')
  | bk ρ => exact fun σ' F' H' p' x' e w o' => h σ' F' H' p' (x.trans x') e w (o.trans o')
  | ct ρ => exact fun σ' F' H' p' x' e w o' => h σ' F' H' p' (x.trans x') e w (o.trans o')
  | rt r ρ => exact fun σ' F' H' p' fp v x' e w r o' => h σ' F' H' p' fp v (x.trans x') e w r (o.trans o')
def sNext : MS := fun ρ => some (.nx ρ)
def sSeq (f h : MS) : MS := fun ρ => match f ρ with
  | some (.nx ρ1) => h ρ1
  | o => o
def sDrop (f : M O) : MS := fun ρ => match f ρ with
  | some (_, ρ1) => some (.nx ρ1)
  | none => none
def sRet (f : M O) : MS := fun ρ => match f ρ with
  | some (o, ρ1) => some (.rt o ρ1)
  | none => none
def sSet (i : Nat) (f : M O) : MS := fun ρ => match f ρ with
  | some (o, ρ1) => if i < ρ1.length then some (.nx (ρ1.set i (some o))) else none
  | none => none
def sAsg (t : TF) (f : M D) : MS := fun ρ => match f ρ with
  | some (d, ρ1) => match t d ρ1 with
    | some ρ2 => some (.nx ρ2)
    | none => none
  | none => none
def sIf (c : M Bool) (f h : MS) : MS := fun ρ => match c ρ with
  | some (true, ρ1) => f ρ1
  | some (false, ρ1) => h ρ1
  | none => none
section
variable {g : G} {F : AP} {H : Hp} {ρ : Env} {fps fp rest : List Addr} {σ : St}
/-- a value of one's own goes into a slot -/
theorem EnvR.store {o : O} {v : V} {i : Nat} (en : EnvR g F H ρ fps σ) (w : Wd F H (fps ++ (fp ++ rest))) (hi : i < ρ.length) (r : RpO g F H o fp v) :
    ∃ fps', (∀ x ∈ fps', x ∈ fps ++ fp) ∧ Wd F H (fps' ++ rest) ∧ EnvR g F H (ρ.set i (some o)) fps' (σ.set i (some v)) := by
  obtain ⟨pre, f, post, rfl, _, k⟩ := en.put i hi
  obtain ⟨_, k2⟩ := k F H (fun a h => ⟨h, rfl⟩) fun _ _ => rfl
  have pm : ((pre ++ (f ++ post)) ++ (fp ++ rest)).Perm (((pre ++ (fp ++ post)) ++ rest) ++ f) := List.perm_iff_count.mpr fun a => by simp only [List.count_append]; omega
  refine ⟨pre ++ (fp ++ post), fun x m => ?_, (w.perm pm).left, k2 o fp v r⟩
  simp only [List.mem_append] at m ⊢
  rcases m with m | m | m <;> simp [m]
end
section
variable {X : Cx} {ws : List Nat} {st : Stmt} {sts : List Stmt} {f h : MS} {e : Expr} {pos : Pos}
theorem s_nil : PSs X [] (tS (gx X) ws sNext) := pss_nil.impD fun {E σ H} ⟨F, ρ, fps, out, en, w, hf, q⟩ => by
  cases hf
  exact q σ F H fps .refl en w .refl
theorem s_one (h1 : PS X st (tS (gx X) ws f)) : PSs X [st] (tS (gx X) ws f) := pss_one h1
theorem s_cons (h1 : PS X st (tS (gx X) ws f)) (h2 : PSs X sts (tS (gx X) ws h)) : PSs X (st :: sts) (tS (gx X) ws (sSeq f h)) := (pss_cons h1 h2).impD fun {E σ H} ⟨F, ρ, fps, out, en, w, hf, q⟩ => by
  unfold sSeq at hf
  cases hff : f ρ with
  | none => rw [hff] at hf; cases hf
  | some o =>
    refine ⟨F, ρ, fps, o, en, w, hff, ?_⟩
    rw [hff] at hf
    cases o with
    | nx ρ1 =>
      intro σ1 F1 H1 p1 x1 e1 w1 o1
      exact ⟨F1, ρ1, p1, out, e1, w1, hf, q.step x1 o1⟩
    | bk ρ1 => cases hf; exact q
    | ct ρ1 => cases hf; exact q
    | rt r ρ1 => cases hf; exact q
theorem s_expr {fe : M O} (he : PE X e (tE (gx X) fe)) (hs : swapsWith e none pos.line X.env = pure false := by rfl) : PS X (.Expr e pos) (tS (gx X) ws (sDrop fe)) := (ps_expr he hs).impD fun {E σ H} ⟨F, ρ, fps, out, en, w, hf, q⟩ => by
  unfold sDrop at hf
  split at hf
  · rename_i o ρ1 hh
    cases hf
    exact ⟨F, ρ, fps, o, ρ1, en, w, hh, fun F1 H1 p1 fp v x1 e1 w1 r1 => q σ F1 H1 p1 (x1.sub fun a m => List.mem_append_left _ m) e1 w1.left .refl⟩
  · cases hf
theorem s_ret {fe : M O} (he : PE X e (tE (gx X) fe)) : PS X (.Return (some e) pos) (tS (gx X) ws (sRet fe)) := (ps_ret he).impD fun {E σ H} ⟨F, ρ, fps, out, en, w, hf, q⟩ => by
  unfold sRet at hf
  split at hf
  · rename_i o ρ1 hh
    cases hf
    exact ⟨F, ρ, fps, o, ρ1, en, w, hh, fun F1 H1 p1 fp v x1 e1 w1 r1 => q σ F1 H1 p1 fp v x1 e1 w1 r1 .refl⟩
  · cases hf
theorem rd_set {i : Nat} {fe : M O} {E : Ends} {σ : St} {H : Hp} {g : G} (hw : ws.contains i = true) (h : tS g ws (sSet i fe) E σ H) : tAsg (tE g fe) (gName i) E σ H := by
  obtain ⟨F, ρ, fps, out, en, w, hf, q⟩ := h
  unfold sSet at hf
  split at hf
  · rename_i o ρ1 hh
    split at hf
    · cases hf
      refine ⟨F, ρ, fps, o, ρ1, en, w, hh, fun F1 H1 p1 fp v x1 e1 w1 r1 => ?_⟩
      obtain ⟨p2, k1, k2, k3⟩ := e1.store (rest := []) (by simpa using w1) ‹_› r1
      exact q _ F1 H1 p2 (x1.sub k1) k3 (by simpa using k2) (Off.set (by simpa using hw))
    · cases hf
  · cases hf
theorem s_set {i : Nat} {x : Str} {fe : M O} {pos' : Pos} (hN : X.N.Nodup) (hi : X.N[i]? = some x) (hx : Loc X.env.scope x) (hw : ws.contains i = true) (he : PE X e (tE (gx X) fe)) (hs : swapsWith e (some (.Name x pos')) pos.line X.env = pure false := by rfl)
    (hf : X.fn x = true ∨ X.env.scope.names.lookup x = some .local := by first | exact .inl rfl | exact .inr rfl | assumption) : PS X (.Assign [.Name x pos'] e pos) (tS (gx X) ws (sSet i fe)) := (ps_set hN hi hx he hs hf).impD (rd_set hw)
theorem s_if {c : Expr} {a b : List Stmt} {fc : M Bool} (hc : PT X c (tT (gx X) fc)) (ha : PSs X a (tS (gx X) ws f)) (hb : PSs X b (tS (gx X) ws h)) : PS X (.If c a b pos) (tS (gx X) ws (sIf fc f h)) := (ps_if hc ha hb).impD fun {E σ H} ⟨F, ρ, fps, out, en, w, hf, q⟩ => by
  unfold sIf at hf
  split at hf
  · rename_i ρ1 hh
    exact ⟨F, ρ, fps, true, ρ1, en, w, hh, fun F1 H1 p1 x1 e1 w1 => ⟨F1, ρ1, p1, out, e1, w1, hf, q.step x1 .refl⟩⟩
  · rename_i ρ1 hh
    exact ⟨F, ρ, fps, false, ρ1, en, w, hh, fun F1 H1 p1 x1 e1 w1 => ⟨F1, ρ1, p1, out, e1, w1, hf, q.step x1 .refl⟩⟩
  · cases hf
end
/-! ### loops -/
def forGo (t : TF) (b : MS) : List D → Env → Option Out
  | [], ρ => some (.nx ρ)
  | d :: ds, ρ => match t d ρ with
    | none => none
    | some ρ1 => match b ρ1 with
      | none => none
      | some (.nx ρ2) => forGo t b ds ρ2
      | some (.ct ρ2) => forGo t b ds ρ2
      | some (.bk ρ2) => some (.nx ρ2)
      | some (.rt o ρ2) => some (.rt o ρ2)
def sFor (it : M (List D)) (t : TF) (b : MS) : MS := fun ρ => match it ρ with
  | some (ds, ρ1) => forGo t b ds ρ1
  | none => none
section
variable {X : Cx} {ws : List Nat} {f : MS} {pos : Pos}
theorem s_for {tg iter : Expr} {body : List Stmt} {it : M (List D)} {t : TF} (hp : PassesOwn (model X.prog X.w) X.A X.env X.xe) (hc : X.calm = true) (hi : PI X tg iter (tI (gx X) it)) (hg : PG X tg (tG (gx X) ws t)) (hb : PSs X body (tS (gx X) ws f))
    (hs : ∀ x, foldedSetIterable iter X.env x = pure x := by intro _; rfl) : PS X (.For tg iter body [] pos) (tS (gx X) ws (sFor it t f)) := (ps_for hp hc hi hg hb hs).impD fun {E σ H} ⟨F, ρ, fps, out, en, w, hf, q⟩ => by
  unfold sFor at hf
  split at hf
  · rename_i ds ρ1 hit
    refine ⟨F, ρ, fps, ds, ρ1, en, w, hit, fun J F1 H1 p1 x1 e1 w1 yl => ?_⟩
    have q1 := q.step x1 (Off.refl (ws := ws) (σ := σ))
    let W : Nat → Nat → St → Hp → Prop := fun i m σi Hi => m = ds.length - i ∧ i ≤ ds.length ∧ ∃ (Fi : AP) (ρi : Env) (fi : List Addr), Ext F1 H1 p1 Fi Hi fi ∧ EnvR (gx X) Fi Hi ρi fi σi ∧ Wd Fi Hi fi ∧ Off ws σ σi ∧ forGo t f (ds.drop i) ρi = some out
    refine ⟨W, ⟨ds.length, by simp, Nat.zero_le _, F1, ρ1, p1, .refl, e1, w1, .refl, by simpa using hf⟩, ?_⟩
    rintro i m σi Hi ⟨hm, hi, Fi, ρi, fi, xi, ei, wi, oi, goi⟩
    obtain ⟨y1, y2⟩ := yl Fi Hi (xi.frozen w1) wi.fro i
    by_cases hlt : i < ds.length
    · obtain ⟨go, yld⟩ := y1 ds[i] (by simp [hlt])
      rw [List.drop_eq_getElem_cons hlt] at goi
      unfold forGo at goi
      refine .inr ⟨go, W (i + 1) (ds.length - (i + 1)), fun σ' H' k => ⟨_, by omega, k⟩, fun x H' y => ?_⟩
      obtain ⟨F3, n3, r3⟩ := yld x H' y
      obtain ⟨x3, e3, w3⟩ := n3.go ei wi
      split at goi
      · cases goi
      · rename_i ρa hta
        refine ⟨F3, ρi, fi, _, ρa, e3, w3, r3, hta, fun σ4 F4 H4 p4 x4 e4 w4 o4 => ?_⟩
        split at goi
        · cases goi
        · rename_i ρb hb
          exact ⟨F4, ρa, p4, _, e4, w4, hb, fun σ5 F5 H5 p5 x5 e5 w5 o5 => ⟨rfl, hlt, F5, ρb, p5, ((xi.trans x3).trans x4).trans x5, e5, w5, (oi.trans o4).trans o5, goi⟩⟩
        · rename_i ρb hb
          exact ⟨F4, ρa, p4, _, e4, w4, hb, fun σ5 F5 H5 p5 x5 e5 w5 o5 => ⟨rfl, hlt, F5, ρb, p5, ((xi.trans x3).trans x4).trans x5, e5, w5, (oi.trans o4).trans o5, goi⟩⟩
        · rename_i ρb hb
          cases goi
          exact ⟨F4, ρa, p4, _, e4, w4, hb, fun σ5 F5 H5 p5 x5 e5 w5 o5 => q1 σ5 F5 H5 p5 (((xi.trans x3).trans x4).trans x5) e5 w5 ((oi.trans o4).trans o5)⟩
        · rename_i o ρb hb
          cases goi
          exact ⟨F4, ρa, p4, _, e4, w4, hb, fun σ5 F5 H5 p5 fp v x5 e5 w5 r5 o5 => q1 σ5 F5 H5 p5 fp v (((xi.trans x3).trans x4).trans x5) e5 w5 r5 ((oi.trans o4).trans o5)⟩
    · have e : i = ds.length := by omega
      subst e
      rw [List.drop_length] at goi
      unfold forGo at goi
      cases goi
      exact .inl ⟨y2 (Nat.le_refl _), q1 σi Fi Hi fi xi ei wi oi⟩
  · cases hf
end
end DL
set_option Elab.async false
set_option linter.all false
set_option maxRecDepth 100000
set_option maxHeartbeats 4000000
/-! The data layer: defs, calls. -/
namespace DL
open PySem PySem.Spec PyProof.Rows L2
/-! ### what a def promises: on its arguments os it gives r, and the changed ones (at ios) are outs -/
def RpAt (g : G) (F : AP) (H : Hp) (vs : List V) : List Nat → List O → List Addr → Prop
  | [], [], fo => fo = []
  | i :: is, o :: os, fo => ∃ v f1 f2, vs[i]? = some v ∧ fo = f1 ++ f2 ∧ RpO g F H o f1 v ∧ RpAt g F H vs is os f2
  | _, _, _ => False
def spF (g : G) (n : Nat) (ios : List Nat) (f : List O → Option (O × List O)) : Sp := fun vs H Q _ => vs.length = n ∧ ∃ F fps os r outs, RpOs g F H os fps vs ∧ Wd F H fps ∧ f os = some (r, outs) ∧
  ∀ F' H' fo fp v, Ext F H fps F' H' (fo ++ fp) → RpAt g F' H' vs ios outs fo → Wd F' H' (fo ++ fp) → RpO g F' H' r fp v → Q v H'
def takeS : List Nat → Env → Option (List O)
  | [], _ => some []
  | i :: is, ρ => match ρ[i]? with
    | some (some o) => (takeS is (ρ.set i none)).map (o :: ·)
    | _ => none
def runB (nl : Nat) (ios : List Nat) (b : MS) (args : List O) : Option (O × List O) := match b (args.map some ++ List.replicate (nl - args.length) none) with
  | some (.rt o ρ) => (takeS ios ρ).map (o, ·)
  | some (.nx ρ) => (takeS ios ρ).map (.pur .non, ·)
  | _ => none
section
variable {g : G} {F : AP} {H : Hp}
theorem takeS_ok : ∀ {ios : List Nat} {ρ : Env} {fps rest : List Addr} {σ : L2.St} {outs : List O} {vs : List V}, EnvR g F H ρ fps σ → Wd F H (fps ++ rest) → takeS ios ρ = some outs → (∀ i ∈ ios, σ[i]? = (vs[i]?).map some) →
    ∃ fo, (∀ x ∈ fo, x ∈ fps) ∧ Wd F H (fo ++ rest) ∧ RpAt g F H vs ios outs fo
  | [], ρ, fps, rest, σ, outs, vs, en, w, h, _ => by
    cases h
    exact ⟨[], by simp, w.right, rfl⟩
  | i :: is, ρ, fps, rest, σ, outs, vs, en, w, h, k => by
    unfold takeS at h
    split at h
    · rename_i o hd
      obtain ⟨os, h1, rfl⟩ := Option.map_eq_some_iff.mp h
      obtain ⟨v, pre, f, post, hs, rfl, r, k2⟩ := en.at hd
      obtain ⟨k3, _⟩ := k2 F H (fun a h => ⟨h, rfl⟩) fun _ _ => rfl
      have k4 := k3 (some v)
      rw [set_same hs] at k4
      have pm : ((pre ++ (f ++ post)) ++ rest).Perm ((pre ++ post) ++ (f ++ rest)) := List.perm_iff_count.mpr fun a => by simp only [List.count_append]; omega
      obtain ⟨fo, h2, h3, h4⟩ := takeS_ok (rest := f ++ rest) (vs := vs) k4 (w.perm pm) h1 fun j hj => k j (List.mem_cons_of_mem _ hj)
      have pm2 : (fo ++ (f ++ rest)).Perm ((f ++ fo) ++ rest) := List.perm_iff_count.mpr fun a => by simp only [List.count_append]; omega
      refine ⟨f ++ fo, fun x m => ?_, h3.perm pm2, ?_⟩
      · simp only [List.mem_append] at m ⊢
        rcases m with m | m
        · simp [m]
        · have := h2 x m
          simp only [List.mem_append] at this
          rcases this with z | z <;> simp [z]
      · have hv := k i (List.mem_cons_self ..)
        rw [hs] at hv
        obtain ⟨u, hu, e⟩ := Option.map_eq_some_iff.mp hv.symm
        cases e
        exact ⟨v, f, fo, hu, rfl, r, h4⟩
    · cases h
theorem EnvR.nones : ∀ (n : Nat) (σ : L2.St), σ.length = n → EnvR g F H (List.replicate n none) [] σ
  | 0, σ, h => by simp only [List.replicate_zero, EnvR]; exact ⟨trivial, List.length_eq_zero_iff.mp h⟩
  | n + 1, [], h => by simp at h
  | n + 1, x :: σ, h => by
    rw [List.replicate_succ]
    simp only [EnvR]
    exact ⟨x, σ, rfl, EnvR.nones n σ (by simpa using h)⟩
theorem EnvR.args {n : Nat} : ∀ {os : List O} {fps : List Addr} {vs : List V}, RpOs g F H os fps vs → EnvR g F H (os.map some ++ List.replicate n none) fps (vs.map some ++ List.replicate n none)
  | [], fps, vs, h => by
    simp only [RpOs] at h
    obtain ⟨rfl, rfl⟩ := h
    simpa using EnvR.nones (g := g) (F := F) (H := H) n (List.replicate n none) (by simp)
  | o :: os, fps, vs, h => by
    simp only [RpOs] at h
    obtain ⟨v, r, f1, f2, rfl, rfl, h1, h2⟩ := h
    simp only [List.map_cons, List.cons_append, EnvR]
    exact ⟨v, _, f1, f2, rfl, rfl, h1, EnvR.args h2⟩
end
section
variable {P : Program} {w : World} {K : PySem.W.Frag} {mg : Str → Option Value} {base : Heap} {x qual : Str} {params : Arguments} {body : List Stmt} {scope : Scope} {dvs : List V} {kws : List (Str × V)} {f : Addr} {fd : FuncData}
/-- THE RULE of a def that lets no exception out -/
theorem ok_fn {N ps : List Str} {k : Nat} {b : MS} {ws ios : List Nat} (F : FunD K x qual params body scope dvs kws f fd) (S : FnScope N ps scope) (hio : ios.all (fun i => decide (i < ps.length) && !ws.contains i) = true)
    (bd : ∀ (cdv : Value) (A : Around) (outer : List PySem.Env) (s : Shared) (H : Hp) (E : XK), Room k (A.deeper (envOfC qual scope s.heap.objs.size f cdv)) → (A.deeper (envOfC qual scope s.heap.objs.size f cdv)).guards = some [] →
      PSs (cxOf CX0 P w K mg base N qual scope f cdv A outer s H E).nox body (tS ⟨K, mg⟩ ws b)) : FnG P w K mg base CX0 (k + 1) f fd ps (spF ⟨K, mg⟩ ps.length ios (runB N.length ios b)) := by
  refine okG F S (fun vs H Q E h => h.1) fun cdv A outer s H vs Q E room gd h => ⟨_, PSs.nox (bd cdv A outer s H E room gd), ?_⟩
  obtain ⟨hl, F1, fps, os, r, outs, ro, w1, hf, q⟩ := h
  have hlen := ro.len
  unfold runB at hf
  have en := EnvR.args (n := N.length - os.length) ro
  have keyv : ∀ (σ' : L2.St), Off ws (L2.start N vs) σ' → ∀ i ∈ ios, σ'[i]? = (vs[i]?).map some := fun σ' off i hi => by
    have h1 := List.all_eq_true.mp hio i hi
    simp only [Bool.and_eq_true, decide_eq_true_eq, Bool.not_eq_true'] at h1
    rw [off.2 i (by simpa using h1.2)]
    unfold L2.start
    rw [List.getElem?_append_left (by simpa [hl] using h1.1), List.getElem?_map]
  have en2 : EnvR ⟨K, mg⟩ F1 H (os.map some ++ List.replicate (N.length - os.length) none) fps (L2.start N vs) := by
    unfold L2.start
    rw [← hlen]
    exact en
  split at hf
  · rename_i o ρ hb
    obtain ⟨outs', h1, h2⟩ := Option.map_eq_some_iff.mp hf
    cases h2
    refine ⟨F1, _, fps, _, en2, w1, hb, fun σ' F' H' p' fp v x' e' w' r' o' => ?_⟩
    obtain ⟨fo, k1, k2, k3⟩ := takeS_ok (vs := vs) e' w' h1 (keyv σ' o')
    exact q F' H' fo fp v (x'.sub fun a m => by
      simp only [List.mem_append] at m ⊢
      exact m.imp (k1 a) id) k3 k2 r'
  · rename_i ρ hb
    obtain ⟨outs', h1, h2⟩ := Option.map_eq_some_iff.mp hf
    cases h2
    refine ⟨F1, _, fps, _, en2, w1, hb, fun σ' F' H' p' x' e' w' o' => ?_⟩
    obtain ⟨fo, k1, k2, k3⟩ := takeS_ok (rest := []) (vs := vs) e' (by simpa using w') h1 (keyv σ' o')
    exact q F' H' fo [] .non (x'.sub fun a m => by
      simp only [List.append_nil] at m
      exact k1 a m) k3 k2 (by simp [RpO, Rp])
  · cases hf
end
/-! ### arguments of a call: some are slots that the callee may change -/
def IoOk : List (Option Nat) → L2.St → List V → Prop
  | [], _, [] => True
  | none :: r, σ, _ :: vs => IoOk r σ vs
  | some i :: r, σ, v :: vs => σ[i]? = some (some v) ∧ IoOk r σ vs
  | _, _, _ => False
def tAI (g : G) (ms : List (Option Nat)) (f : M (List O)) : TA := fun σ H Q => ∃ F ρ fps os ρ', EnvR g F H ρ fps σ ∧ Wd F H fps ∧ f ρ = some (os, ρ') ∧
  ∀ F' H' fps' fp vs, Ext F H fps F' H' (fps' ++ fp) → EnvR g F' H' ρ' fps' σ → Wd F' H' (fps' ++ fp) → RpOs g F' H' os fp vs → IoOk ms σ vs → Q vs H'
def tEI (g : G) (m : Option Nat) (f : M O) : TE := fun σ H Q => ∃ F ρ fps o ρ', EnvR g F H ρ fps σ ∧ Wd F H fps ∧ f ρ = some (o, ρ') ∧
  ∀ F' H' fps' fp v, Ext F H fps F' H' (fps' ++ fp) → EnvR g F' H' ρ' fps' σ → Wd F' H' (fps' ++ fp) → RpO g F' H' o fp v → (∀ i, m = some i → σ[i]? = some (some v)) → Q v H'
section
variable {X : Cx} {e : Expr} {es : List Expr} {f : M O} {fs : M (List O)} {pos : Pos} {m : Option Nat} {ms : List (Option Nat)}
theorem ei_val (h : PE X e (tE (gx X) f)) : PE X e (tEI (gx X) none f) := h.impD fun ⟨F, ρ, fps, o, ρ', en, w, hf, q⟩ => ⟨F, ρ, fps, o, ρ', en, w, hf, fun F' H' p' fp v x e w r => q F' H' p' fp v x e w r fun _ z => nomatch z⟩
theorem ei_io {i : Nat} (h : PE X e (tVar i)) : PE X e (tEI (gx X) (some i) (eMove i)) := h.impD fun {σ H Q} ⟨F, ρ, fps, o, ρ', en, w, hf, q⟩ => by
  unfold eMove at hf
  split at hf
  · rename_i o' hd
    cases hf
    obtain ⟨v, pre, f, post, hs, rfl, r, k⟩ := en.at hd
    obtain ⟨k1, _⟩ := k F H (fun a h => ⟨h, rfl⟩) fun _ _ => rfl
    have k1 := k1 (some v)
    rw [set_same hs] at k1
    exact ⟨v, hs, q F H (pre ++ post) f v (Ext.refl.perm (perm_mid ..)) k1 (w.perm (perm_mid ..)) r fun j z => by cases z; exact hs⟩
  · cases hf
theorem ai_nil : PA X [] (tAI (gx X) [] eaNil) := pa_nil.impD fun {σ H Q} ⟨F, ρ, fps, d, ρ', en, w, hf, q⟩ => by
  obtain ⟨rfl, rfl⟩ := ret_some.mp hf
  exact q F H fps [] [] (by simpa using Ext.refl) en (by simpa using w) (by simp [RpOs]) trivial
theorem ai_cons (ha : PE X e (tEI (gx X) m f)) (hr : PA X es (tAI (gx X) ms fs)) (hs : starEach (e :: es) X.env = (false, eval e X.env) :: starEach es X.env := by rfl) : PA X (e :: es) (tAI (gx X) (m :: ms) (eaCons f fs)) := (pa_cons ha hr hs).impD fun {σ H Q} ⟨F, ρ, fps, d, ρ', en, w, hf, q⟩ => by
  obtain ⟨x, ρ1, h1, h2⟩ := bnd_some.mp hf
  obtain ⟨xs, ρ2, h3, h4⟩ := bnd_some.mp h2
  obtain ⟨rfl, rfl⟩ := ret_some.mp h4
  refine ⟨F, ρ, fps, _, _, en, w, h1, fun F1 H1 p1 fp1 v x1 e1 w1 r1 i1 => ⟨F1, ρ1, p1, xs, _, e1, w1.left, h3, fun F2 H2 p2 fp2 vs x2 e2 w2 r2 i2 => ?_⟩⟩
  obtain ⟨wb, st⟩ := x2.beside w1 w2
  have pm : ((p2 ++ fp2) ++ fp1).Perm (p2 ++ (fp1 ++ fp2)) := List.perm_iff_count.mpr fun a => by simp only [List.count_append]; omega
  refine q F2 H2 p2 (fp1 ++ fp2) (v :: vs) ((x1.trans x2.wide).perm pm) e2 (wb.perm pm) ?_ ?_
  · simp only [RpOs]
    exact ⟨v, vs, fp1, fp2, rfl, rfl, RpO.mono (x2.frozen w1.left) _ _ _ st r1, r2⟩
  · cases m with
    | none => exact i2
    | some i => exact ⟨i1 i rfl, i2⟩
end
def putOuts : List (Option Nat) → List O → Env → Env
  | some s :: ss, o :: os, ρ => putOuts ss os (ρ.set s (some o))
  | none :: ss, _ :: os, ρ => putOuts ss os ρ
  | _, _, ρ => ρ
def slotsOf (ms : List (Option Nat)) (ios : List Nat) : List (Option Nat) := ios.map fun k => (ms[k]?).join
def eCall (f : List O → Option (O × List O)) (ss : List (Option Nat)) (fs : M (List O)) : M O := bnd fs fun os ρ1 => match f os with
  | some (r, outs) => some (r, putOuts ss outs ρ1)
  | none => none
section
variable {g : G} {F : AP} {H : Hp}
theorem IoOk.at : ∀ {ms : List (Option Nat)} {σ : L2.St} {vs : List V} {k s : Nat}, IoOk ms σ vs → ms[k]? = some (some s) → ∃ v, vs[k]? = some v ∧ σ[s]? = some (some v)
  | [], σ, vs, k, s, h, e => by simp at e
  | none :: ms, σ, [], k, s, h, e => by simp [IoOk] at h
  | some i :: ms, σ, [], k, s, h, e => by simp [IoOk] at h
  | none :: ms, σ, v :: vs, 0, s, h, e => by simp at e
  | none :: ms, σ, v :: vs, k + 1, s, h, e => IoOk.at (k := k) (ms := ms) h (by simpa using e)
  | some i :: ms, σ, v :: vs, 0, s, h, e => by
    simp at e
    subst e
    exact ⟨v, rfl, h.1⟩
  | some i :: ms, σ, v :: vs, k + 1, s, h, e => IoOk.at (k := k) (ms := ms) h.2 (by simpa using e)
theorem putOuts_ok {vs : List V} {ms : List (Option Nat)} {σ : L2.St} (io : IoOk ms σ vs) : ∀ {ios : List Nat} {outs : List O} {fo p rest : List Addr} {ρ : Env}, RpAt g F H vs ios outs fo → EnvR g F H ρ p σ → Wd F H (p ++ (fo ++ rest)) →
    ∃ p', (∀ x ∈ p', x ∈ p ++ fo) ∧ Wd F H (p' ++ rest) ∧ EnvR g F H (putOuts (slotsOf ms ios) outs ρ) p' σ
  | [], [], fo, p, rest, ρ, ra, en, w => by
    have : fo = [] := ra
    subst this
    exact ⟨p, by simp, by simpa using w, en⟩
  | [], o :: os, fo, p, rest, ρ, ra, en, w => ra.elim
  | i :: is, [], fo, p, rest, ρ, ra, en, w => ra.elim
  | i :: is, o :: os, fo, p, rest, ρ, ra, en, w => by
    obtain ⟨v, f1, f2, hv, rfl, r, ra⟩ := ra
    unfold slotsOf
    rw [List.map_cons]
    cases hm : (ms[i]?).join with
    | none =>
      unfold putOuts
      have pm : (p ++ ((f1 ++ f2) ++ rest)).Perm ((p ++ (f2 ++ rest)) ++ f1) := List.perm_iff_count.mpr fun a => by simp only [List.count_append]; omega
      obtain ⟨p', k1, k2, k3⟩ := putOuts_ok io ra en (w.perm pm).left
      exact ⟨p', fun x m => by have := k1 x m; simp only [List.mem_append] at this ⊢; rcases this with z | z <;> simp [z], k2, k3⟩
    | some s =>
      unfold putOuts
      have hms : ms[i]? = some (some s) := by
        cases h : ms[i]? with
        | none => rw [h] at hm; cases hm
        | some y => rw [h] at hm; cases y with
          | none => cases hm
          | some z => cases hm; rfl
      obtain ⟨v', h1, h2⟩ := io.at hms
      rw [hv] at h1; cases h1
      have pm : (p ++ ((f1 ++ f2) ++ rest)).Perm (p ++ (f1 ++ (f2 ++ rest))) := List.perm_iff_count.mpr fun a => by simp only [List.count_append]; omega
      obtain ⟨p1, k1, k2, k3⟩ := en.store (w.perm pm) (by rw [en.length]; exact get_len h2) r
      rw [set_same h2] at k3
      obtain ⟨p', k4, k5, k6⟩ := putOuts_ok io ra k3 k2
      refine ⟨p', fun x m => ?_, k5, k6⟩
      have := k4 x m
      simp only [List.mem_append] at this ⊢
      rcases this with z | z
      · have := k1 x z
        simp only [List.mem_append] at this
        rcases this with z | z <;> simp [z]
      · simp [z]
end
section
variable {X : Cx} {k : Nat} {fa : Addr} {fd : FuncData} {ps : List Str} {x : Str} {p pos : Pos} {e : Expr} {es : List Expr} {n : Nat} {ios : List Nat} {f : List O → Option (O × List O)} {ms ss : List (Option Nat)} {fs : M (List O)}
theorem rd_callF {E : XK} {σ : L2.St} {H : Hp} {Q : VK} (hss : ss = slotsOf ms ios) (hlen : ∀ vs H Q E, spF (gx X) n ios f vs H Q E → vs.length = ps.length) (hn : ms.length = n) (h : tE (gx X) (eCall f ss fs) σ H Q) : tCall (spF (gx X) n ios f) [] E (tAI (gx X) ms fs) σ H Q := by
  subst hss
  obtain ⟨F, ρ, fps, o, ρ', en, w, hf, q⟩ := h
  obtain ⟨os, ρ1, h1, h2⟩ := bnd_some.mp hf
  split at h2
  · rename_i r outs hfo
    injection h2 with h2
    injection h2 with h2 h2'
    subst h2 h2'
    refine ⟨F, ρ, fps, os, ρ1, en, w, h1, fun F1 H1 p1 fp vs x1 e1 w1 r1 i1 => ?_⟩
    show spF (gx X) n ios f (vs ++ []) H1 Q E
    rw [List.append_nil]
    have hl : vs.length = n := by
      have : ∀ {ms : List (Option Nat)} {σ : L2.St} {vs : List V}, IoOk ms σ vs → vs.length = ms.length := fun {ms} => by
        induction ms with
        | nil => intro σ vs h; cases vs with
          | nil => rfl
          | cons _ _ => exact h.elim
        | cons m ms ih => intro σ vs h; cases vs with
          | nil => cases m <;> exact h.elim
          | cons v vs => cases m with
            | none => simp [ih (show IoOk ms σ vs from h)]
            | some i => simp [ih h.2]
      rw [this i1, hn]
    have pm0 : (p1 ++ fp).Perm (fp ++ p1) := List.perm_append_comm
    refine ⟨hl, F1, fp, os, r, outs, r1, w1.right, hfo, fun F2 H2 fo fr v x2 ra w2 rr => ?_⟩
    obtain ⟨wb, st⟩ := x2.beside (w1.perm pm0) w2
    have e2 : EnvR (gx X) F2 H2 ρ1 p1 σ := e1.mono (x2.frozen w1.right) st
    have pm : ((fo ++ fr) ++ p1).Perm (p1 ++ (fo ++ fr)) := List.perm_append_comm
    obtain ⟨p', k1, k2, k3⟩ := putOuts_ok i1 ra e2 (wb.perm pm)
    refine q F2 H2 p' fr v ((x1.trans ((x2.wide (f3 := p1)).permL pm0.symm)).sub fun a m => ?_) k3 k2 rr
    simp only [List.mem_append] at m ⊢
    rcases m with m | m
    · have := k1 a m
      simp only [List.mem_append] at this
      rcases this with z | z <;> simp [z]
    · simp [m]
  · cases h2
theorem e_call (F : FnG X.prog X.w X.K X.mg X.base CX0 k fa fd ps (spF (gx X) n ios f)) (hr : Room k X.A) (gd : X.A.guards = some []) (hm : X.mg x = some (.ref fa)) (hk : PySem.W.keepIn X.K (.ref fa) = true) (hb : Binds X.K fd ps [])
    (ha : PA X (e :: es) (tAI (gx X) ms fs)) (hss : ss = slotsOf ms ios := by rfl) (hn : ms.length = n := by rfl) (hg : Gl X x := by rfl) (hdb : (x == ("__debug__" : Str)) = false := by decide) (he : starEach (e :: es) X.env = (false, eval e X.env) :: starEach es X.env := by rfl) (hpl : (backTo pos (starEach es X.env)).any (·.1) = false := by rfl) :
    PE X (.Call (.Name x p) (e :: es) [] pos) (tE (gx X) (eCall f ss fs)) := (pe_callG F hr gd hg hm hk hb .nil pass0 ha hdb he hpl).impD fun h => rd_callF (ps := ps) hss F.len hn h
end
end DL
set_option Elab.async false
set_option linter.all false
set_option maxRecDepth 100000
set_option maxHeartbeats 4000000
/-! The data layer: lists of one's own: made, changed. -/
namespace DL
open PySem PySem.Spec PyProof.Rows L2
/-! ### made anew -/
def plO (ds : List D) : O := .lst (ds.map .pur)
theorem fzs_pur : ∀ ds : List D, fzs (ds.map O.pur) = ds
  | [] => rfl
  | d :: ds => by simp [fzs, O.fz, fzs_pur ds]
theorem plO_fz (ds : List D) : (plO ds).fz = .lst ds := by simp [plO, O.fz, fzs_pur]
section
variable {g : G} {F : AP} {H : Hp}
theorem RpOs.pur : ∀ {ds : List D} {vs : List V}, Rps g F H ds vs → RpOs g F H (ds.map O.pur) [] vs
  | [], vs, h => by simp only [Rps] at h; subst h; simp [RpOs]
  | d :: ds, vs, h => by
    simp only [Rps] at h
    obtain ⟨v, r, rfl, h1, h2⟩ := h
    simp only [List.map_cons, RpOs, RpO]
    exact ⟨v, r, [], [], rfl, rfl, ⟨rfl, h1⟩, RpOs.pur h2⟩
/-- the new list at p -/
theorem own_new {ρ : Env} {fps : List Addr} {σ : L2.St} {ds : List D} {vs : List V} {p : Addr} (en : EnvR g F H ρ fps σ) (w : Wd F H fps) (hp : H p = none) (r : Rps g F H ds vs) :
    Ext F H fps F (upd H p (.lst vs)) (fps ++ [p]) ∧ EnvR g F (upd H p (.lst vs)) ρ fps σ ∧ Wd F (upd H p (.lst vs)) (fps ++ [p]) ∧ RpO g F (upd H p (.lst vs)) (plO ds) [p] (.ref p) := by
  have ne : ∀ a, H a ≠ none → a ≠ p := fun a h e => h (e ▸ hp)
  have mF : ∀ a, F a → F a ∧ upd H p (.lst vs) a = H a := fun a h => ⟨h, upd_ne (ne a (w.fro a h))⟩
  have pm : (p :: fps).Perm (fps ++ [p]) := List.perm_append_singleton p fps |>.symm
  refine ⟨(Ext.laidO hp).perm pm, en.mono mF fun a m => upd_ne (ne a (w.own a m).1), (w.laidO hp).perm pm, ?_⟩
  unfold plO
  simp only [RpO]
  exact ⟨p, vs, [], rfl, upd_same, RpOs.pur (Rps.mono mF _ _ r), rfl⟩
end
def OpF (g : G) (r : R2) (op : D → D → Option (List D)) : Prop := ∀ (F : AP) (H : Hp) (x y : V) (dx dy : D) (ds : List D) (Q : VK), (∀ a, F a → H a ≠ none) → Rp g F H dx x → Rp g F H dy y → op dx dy = some ds →
  (∀ p vs, H p = none → Rps g F H ds vs → Q (.ref p) (upd H p (.lst vs))) → r x y H Q
def eOp2 (op : D → D → Option (List D)) (fa fb : M D) : M O := bnd fa fun x => bnd fb fun y => bnd (opt (op x y)) fun ds => ret (plO ds)
def CallF (g : G) (r : List V → Hp → VK → Prop) (op : List D → Option (List D)) : Prop := ∀ (F : AP) (H : Hp) (vs : List V) (xs ds : List D) (Q : VK), (∀ a, F a → H a ≠ none) → Rps g F H xs vs → op xs = some ds →
  (∀ p us, H p = none → Rps g F H ds us → Q (.ref p) (upd H p (.lst us))) → r vs H Q
def eArgs (op : List D → Option (List D)) (f : M (List D)) : M O := bnd f fun xs => bnd (opt (op xs)) fun ds => ret (plO ds)
section
variable {g : G} {σ : L2.St} {H : Hp} {Q : VK}
theorem rd_eop2 {r : R2} {op : D → D → Option (List D)} {fa fb : M D} (hr : OpF g r op) (h : tE g (eOp2 op fa fb) σ H Q) : tOp r (tD g fa) (tD g fb) σ H Q := by
  obtain ⟨F, ρ, fps, o, ρ', e, w, hf, q⟩ := h
  obtain ⟨x, ρ1, h1, h2⟩ := bnd_some.mp hf
  obtain ⟨y, ρ2, h2, h3⟩ := bnd_some.mp h2
  obtain ⟨ds, ρ3, h4, h5⟩ := bnd_some.mp h3
  obtain ⟨h6, rfl⟩ := opt_some.mp h4
  obtain ⟨rfl, rfl⟩ := ret_some.mp h5
  refine ⟨F, ρ, fps, x, ρ1, e, w, h1, fun F1 H1 p1 v1 x1 e1 w1 r1 => ⟨F1, ρ1, p1, y, _, e1, w1, h2, fun F2 H2 p2 v2 x2 e2 w2 r2 => ?_⟩⟩
  refine hr F2 H2 v1 v2 x y ds Q w2.fro (Rp.mono (x2.frozen w1) _ _ r1) r2 h6 fun p vs hp k => ?_
  obtain ⟨x3, e3, w3, k3⟩ := own_new e2 w2 hp k
  exact q F2 _ p2 [p] (.ref p) ((x1.trans x2).trans x3) e3 w3 k3
theorem rd_eargs {r : List V → Hp → VK → Prop} {op : List D → Option (List D)} {f : M (List D)} (hr : CallF g r op) (h : tE g (eArgs op f) σ H Q) : tA g f σ H fun vs H1 => r vs H1 Q := by
  obtain ⟨F, ρ, fps, o, ρ', e, w, hf, q⟩ := h
  obtain ⟨x, ρ1, h1, h2⟩ := bnd_some.mp hf
  obtain ⟨ds, ρ3, h4, h5⟩ := bnd_some.mp h2
  obtain ⟨h6, rfl⟩ := opt_some.mp h4
  obtain ⟨rfl, rfl⟩ := ret_some.mp h5
  refine ⟨F, ρ, fps, x, _, e, w, h1, fun F1 H1 p1 v1 x1 e1 w1 r1 => ?_⟩
  refine hr F1 H1 v1 x ds Q w1.fro r1 h6 fun p vs hp k => ?_
  obtain ⟨x3, e3, w3, k3⟩ := own_new e1 w1 hp k
  exact q F1 _ p1 [p] (.ref p) (x1.trans x3) e3 w3 k3
end
def addL : D → D → Option (List D)
  | .lst a, .lst b => if a.length + b.length ≤ sizeLine then some (a ++ b) else none
  | _, _ => none
def mulL : D → D → Option (List D)
  | .lst a, .int k => if -(2 ^ 63) ≤ k ∧ k < 2 ^ 63 ∧ a.length * k.toNat ≤ sizeLine then some (List.replicate k.toNat a).flatten else none
  | _, _ => none
theorem of_addL {g : G} : OpF g rCat addL := by
  intro F H x y dx dy ds Q fr rx ry e q
  unfold addL at e
  split at e
  · split at e
    · cases e
      simp only [Rp] at rx ry
      obtain ⟨p, vs, rfl, f1, h1, k1⟩ := rx
      obtain ⟨p2, us, rfl, f2, h2, k2⟩ := ry
      exact ⟨_, _, _, _, rfl, rfl, h1, h2, by rw [← k1.length, ← k2.length]; assumption, fun p hp => q _ _ hp (k1.append k2)⟩
    · cases e
  · cases e
theorem of_mulL {g : G} : OpF g rRep mulL := by
  intro F H x y dx dy ds Q fr rx ry e q
  unfold mulL at e
  split at e
  · split at e
    · rename_i hh
      cases e
      simp only [Rp] at rx ry
      obtain ⟨p, vs, rfl, f1, h1, k1⟩ := rx
      subst ry
      exact ⟨_, _, _, rfl, rfl, h1, hh.1, hh.2.1, by rw [← k1.length]; exact hh.2.2, fun p hp => q _ _ hp (k1.flat _)⟩
    · cases e
  · cases e
def listL : List D → Option (List D)
  | [.lst ds] => some ds
  | [.tup ds] => some ds
  | _ => none
theorem cf_list {g : G} : CallF g (fun xs H Q => ∃ p ys, xs = [.ref p] ∧ (SqL g.K H p ys ∨ SqT g.K H p ys) ∧ ∀ l, H l = none → Q (.ref l) (upd H l (.lst ys))) listL := by
  intro F H vs xs ds Q fr r0 e q
  unfold listL at e
  split at e
  · cases e
    obtain ⟨v, rfl, r⟩ := Rps.one.mp r0
    simp only [Rp] at r
    obtain ⟨a, us, rfl, f, t, k⟩ := r
    exact ⟨_, us, rfl, .inl (.of t), fun p hp => q p us hp k⟩
  · cases e
    obtain ⟨v, rfl, r⟩ := Rps.one.mp r0
    simp only [Rp] at r
    obtain ⟨a, us, rfl, t, k⟩ := r
    exact ⟨_, us, rfl, .inr t.sq, fun p hp => q p us hp k⟩
  · cases e
def slL (x : D) (lo hi : Option Int) : Option (List D) := match x with
  | .lst ds => some (cut ds lo hi)
  | _ => none
def eSl (f : M D) (lo hi : M (Option Int)) : M O := bnd f fun x => bnd lo fun l => bnd hi fun h => bnd (opt (slL x l h)) fun ds => ret (plO ds)
section
variable {X : Cx} {a b e : Expr} {es : List Expr} {fa fb f : M D} {fs : M (List D)} {p pos p2 : Pos} {lo hi : M (Option Int)} {elo ehi : Option Expr}
theorem e_add (ha : PE X a (tD (gx X) fa)) (hb : PE X b (tD (gx X) fb)) : PE X (.BinOp a .Add b pos) (tE (gx X) (eOp2 addL fa fb)) := (pe_op op_cat ha hb).impD (rd_eop2 of_addL)
theorem e_mul (ha : PE X a (tD (gx X) fa)) (hb : PE X b (tD (gx X) fb)) : PE X (.BinOp a .Mult b pos) (tE (gx X) (eOp2 mulL fa fb)) := (pe_op op_rep ha hb).impD (rd_eop2 of_mulL)
theorem e_list (hm : X.mg "list" = none) (ha : PA X (e :: es) (tA (gx X) fs)) (hg : Gl X "list" := by rfl) (he : starEach (e :: es) X.env = (false, eval e X.env) :: starEach es X.env := by rfl) (hpl : (backTo pos (starEach es X.env)).any (·.1) = false := by rfl) :
    PE X (.Call (.Name "list" p) (e :: es) [] pos) (tE (gx X) (eArgs listL fs)) := (pe_callTy call_list_of hg hm (by decide +kernel) ha (he := he) (hpl := hpl)).impD fun q => rd_eargs cf_list q
end
/-! ### a list in a slot is changed -/
section
variable {g : G} {F : AP} {H : Hp} {ρ : Env} {fps fp : List Addr} {σ : L2.St} {i : Nat} {os : List O}
/-- the list in slot i, and whatever is made of it -/
theorem root_lst (en : EnvR g F H ρ fps σ) (w : Wd F H (fps ++ fp)) (hd : ρ[i]? = some (some (.lst os))) : ∃ a vs fo, σ[i]? = some (some (.ref a)) ∧ H a = some (.lst vs) ∧ RpOs g F H os fo vs ∧
    ∀ os' vs' f' fr, RpOs g F H os' f' vs' → (∀ x, f'.count x + fr.count x ≤ fo.count x + fp.count x) →
      ∃ p', Ext F H (fps ++ fp) F (upd H a (.lst vs')) (p' ++ fr) ∧ EnvR g F (upd H a (.lst vs')) (ρ.set i (some (.lst os'))) p' σ ∧ Wd F (upd H a (.lst vs')) (p' ++ fr) ∧
        ∀ o v, RpO g F H o fr v → RpO g F (upd H a (.lst vs')) o fr v := by
  obtain ⟨v, pre, f, post, hs, rfl, r, k⟩ := en.at hd
  simp only [RpO] at r
  obtain ⟨a, vs, fo, rfl, ha, ro, rfl⟩ := r
  refine ⟨a, vs, fo, hs, ha, ro, fun os' vs' f' fr r' hc => ?_⟩
  have cn := List.nodup_iff_count.mp w.nd
  simp only [List.cons_append, List.count_append, List.count_cons] at cn
  have fa : ¬ F a := (w.own a (by simp)).2
  have hn : ∀ x, x ∈ pre ++ post ∨ x ∈ fo ∨ x ∈ fp → x ≠ a := fun x m e => by
    subst e
    have := cn x
    simp only [beq_self_eq_true, if_true] at this
    rcases m with m | m | m
    · have h1 := List.count_pos_iff.mpr m
      simp only [List.count_append] at h1
      omega
    · have h1 := List.count_pos_iff.mpr m
      omega
    · have h1 := List.count_pos_iff.mpr m
      omega
  have mem' : ∀ x, x ∈ f' ∨ x ∈ fr → x ∈ fo ∨ x ∈ fp := fun x m => by
    have h0 := hc x
    by_cases q : x ∈ fo
    · exact .inl q
    · refine .inr (List.count_pos_iff.mp ?_)
      have h1 : fo.count x = 0 := List.count_eq_zero.mpr q
      rcases m with m | m
      · have h2 := List.count_pos_iff.mpr m
        omega
      · have h2 := List.count_pos_iff.mpr m
        omega
  have mF : ∀ x, F x → F x ∧ upd H a (.lst vs') x = H x := fun x h => ⟨h, upd_ne fun e => fa (e ▸ h)⟩
  obtain ⟨_, k2⟩ := k F (upd H a (.lst vs')) mF fun x m => upd_ne (hn x (.inl m))
  have r2 : RpO g F (upd H a (.lst vs')) (.lst os') (a :: f') (.ref a) := by
    simp only [RpO]
    exact ⟨a, vs', f', rfl, upd_same, RpOs.mono mF _ _ _ (fun x m => upd_ne (hn x (.inr (mem' x (.inl m))))) r', rfl⟩
  have k3 := k2 _ _ _ r2
  rw [set_same hs] at k3
  have cnt : ∀ x, ((pre ++ ((a :: f') ++ post)) ++ fr).count x ≤ ((pre ++ ((a :: fo) ++ post)) ++ fp).count x := fun x => by
    have := hc x
    simp only [List.cons_append, List.count_append, List.count_cons]
    omega
  have sub : ∀ x ∈ (pre ++ ((a :: f') ++ post)) ++ fr, x ∈ (pre ++ ((a :: fo) ++ post)) ++ fp := fun x m => List.count_pos_iff.mp (Nat.lt_of_lt_of_le (List.count_pos_iff.mpr m) (cnt x))
  have nd : ((pre ++ ((a :: f') ++ post)) ++ fr).Nodup := List.nodup_iff_count.mpr fun x => Nat.le_trans (cnt x) (List.nodup_iff_count.mp w.nd x)
  exact ⟨_, (Ext.put (by simp)).sub sub, k3, (w.sub nd sub).put, fun o v ro => RpO.mono mF _ _ _ (fun x m => upd_ne (hn x (.inr (mem' x (.inr m))))) ro⟩
end
/-- a method of the list in slot i: what it hands back, the new items -/
def eMeth (i : Nat) (op : List O → List O → Option (O × List O)) (fs : M (List O)) : M O := fun ρ => match ρ[i]? with
  | some (some (.lst _)) => match fs ρ with
    | some (as, ρ1) => match ρ1[i]? with
      | some (some (.lst os)) => match op os as with
        | some (r, os') => some (r, ρ1.set i (some (.lst os')))
        | none => none
      | _ => none
    | none => none
  | _ => none
/-- the method's reading does what op says -/
def MtO (g : G) (r : V → List V → Hp → VK → Prop) (op : List O → List O → Option (O × List O)) : Prop := ∀ (F : AP) (H : Hp) (a : Addr) (os as os' : List O) (o : O) (vs us : List V) (fo fa : List Addr) (Q : VK),
  H a = some (.lst vs) → RpOs g F H os fo vs → RpOs g F H as fa us → op os as = some (o, os') →
  (∀ vs' f' fr v, RpOs g F H os' f' vs' → RpO g F H o fr v → (∀ x, f'.count x + fr.count x ≤ fo.count x + fa.count x) → Q v (upd H a (.lst vs'))) → r (.ref a) us H Q
section
variable {X : Cx} {e o : Expr} {es : List Expr} {apos cpos : Pos} {id : String} {name : Str} {r : V → List V → Hp → VK → Prop} {op : List O → List O → Option (O × List O)} {fs : M (List O)} {i : Nat}
theorem rd_meth {σ : L2.St} {H : Hp} {Q : VK} (hr : MtO (gx X) r op) (h : tE (gx X) (eMeth i op fs) σ H Q) : tBM X.K "list" r (tVar i) (tAE (gx X) fs) σ H Q := by
  obtain ⟨F, ρ, fps, o, ρ', en, w, hf, q⟩ := h
  unfold eMeth at hf
  split at hf
  · rename_i os0 hd0
    split at hf
    · rename_i as ρ1 hfs
      split at hf
      · rename_i os hd
        split at hf
        · rename_i r1 os' hop
          cases hf
          obtain ⟨v, pre, f, post, hs, _, r0, _⟩ := en.at hd0
          simp only [RpO] at r0
          obtain ⟨a, vs, f0, rfl, ha, _, _⟩ := r0
          refine ⟨.ref a, hs, .inl ⟨rfl, _, .inl (.inl ha)⟩, F, ρ, fps, as, ρ1, en, w, hfs, fun F1 H1 p1 fp us x1 e1 w1 ra => ?_⟩
          obtain ⟨a2, vs2, fo, hs2, ha2, ro, k⟩ := root_lst e1 w1 hd
          rw [hs] at hs2; cases hs2
          refine hr F1 H1 a os as os' o vs2 us fo fp Q ha2 ro ra hop fun vs' f' fr v r' rr hc => ?_
          obtain ⟨p', x2, e2, w2, st⟩ := k os' vs' f' fr r' hc
          exact q F1 _ p' fr v (x1.trans x2) e2 w2 (st _ _ rr)
        · cases hf
      · cases hf
    · cases hf
  · cases hf
theorem e_meth {E : Expr} (hr : MtO (gx X) r op) (h : PE X E (tBM X.K "list" r (tVar i) (tAE (gx X) fs))) : PE X E (tE (gx X) (eMeth i op fs)) := h.impD (rd_meth hr)
end
def opAppend : List O → List O → Option (O × List O)
  | os, [o] => if os.length < sizeLine then some (.pur .non, os ++ [o]) else none
  | _, _ => none
section
variable {g : G}
theorem RpOs.reverse {F : AP} {H : Hp} : ∀ {os : List O} {f : List Addr} {vs : List V}, RpOs g F H os f vs → ∃ f', f'.Perm f ∧ RpOs g F H os.reverse f' vs.reverse
  | [], f, vs, h => by
    simp only [RpOs] at h
    obtain ⟨rfl, rfl⟩ := h
    exact ⟨[], .refl _, by simp [RpOs]⟩
  | o :: os, f, vs, h => by
    simp only [RpOs] at h
    obtain ⟨v, r, a, b, rfl, rfl, h1, h2⟩ := h
    obtain ⟨f', p, k⟩ := RpOs.reverse h2
    rw [List.reverse_cons, List.reverse_cons]
    exact ⟨f' ++ a, (p.append_right a).trans List.perm_append_comm, RpOs.snoc k h1⟩
theorem RpOs.last {F : AP} {H : Hp} : ∀ {os : List O} {f : List Addr} {vs : List V} {o : O}, RpOs g F H os f vs → os.getLast? = some o → ∃ f1 f2 v, f = f1 ++ f2 ∧ vs[vs.length - 1]? = some v ∧ RpOs g F H os.dropLast f1 vs.dropLast ∧ RpO g F H o f2 v
  | [], f, vs, o, h, e => by simp at e
  | [p], f, vs, o, h, e => by
    simp at e
    subst e
    simp only [RpOs] at h
    obtain ⟨v, r, a, b, rfl, rfl, h1, rfl, rfl⟩ := h
    exact ⟨[], a, v, by simp, rfl, by simp [RpOs], h1⟩
  | p :: p2 :: os, f, vs, o, h, e => by
    have h0 := h
    unfold RpOs at h
    obtain ⟨v, r, a, b, rfl, rfl, h1, h2⟩ := h
    obtain ⟨f1, f2, u, rfl, k1, k2, k3⟩ := RpOs.last h2 (o := o) (by simpa [List.getLast?_cons_cons] using e)
    have hne : r ≠ [] := by rintro rfl; simp [RpOs] at h2
    have hl : 0 < r.length := List.length_pos_iff.mpr hne
    refine ⟨a ++ f1, f2, u, by simp, ?_, ?_, k3⟩
    · rw [List.length_cons, Nat.add_sub_cancel, List.getElem?_cons, if_neg (by omega)]
      exact k1
    · rw [List.dropLast_cons_of_ne_nil (by simp), List.dropLast_cons_of_ne_nil hne]
      unfold RpOs
      exact ⟨v, _, a, f1, rfl, rfl, h1, k2⟩
theorem mo_append : MtO g rAppend opAppend := by
  intro F H a os as os' o vs us fo fa Q ha ro ra e q
  unfold opAppend at e
  split at e
  · split at e
    · rename_i os1 o1 hsz
      cases e
      simp only [RpOs] at ra
      obtain ⟨u, _, f1, f2, rfl, rfl, r1, rfl, rfl⟩ := ra
      exact ⟨a, vs, u, rfl, rfl, ha, by rw [← ro.len]; exact hsz, q _ (fo ++ f1) [] .non (RpOs.snoc ro r1) (by simp [RpO, Rp]) fun x => by simp⟩
    · cases e
  · cases e
end
section
variable {X : Cx} {E : Expr} {fs : M (List O)} {i : Nat}
theorem m_append (h : PE X E (tBM X.K "list" rAppend (tVar i) (tAE (gx X) fs))) : PE X E (tE (gx X) (eMeth i opAppend fs)) := e_meth mo_append h
end
end DL
set_option Elab.async false
set_option linter.all false
set_option maxRecDepth 100000
set_option maxHeartbeats 400000
/-! The data layer: stores into a list of one's own, += , several targets at once, borrowing. -/
namespace DL
open PySem PySem.Spec PyProof.Rows L2
section
variable {g : G} {F : AP} {H : Hp}
theorem RpOs.set : ∀ {os : List O} {fo : List Addr} {vs : List V} {j : Nat} {o : O} {f : List Addr} {v : V}, RpOs g F H os fo vs → RpO g F H o f v → ∃ f', RpOs g F H (os.set j o) f' (vs.set j v) ∧ ∀ x, f'.count x ≤ fo.count x + f.count x
  | [], fo, vs, j, o, f, v, h, k => by
    simp only [RpOs] at h
    obtain ⟨rfl, rfl⟩ := h
    exact ⟨[], by simp [RpOs], by simp⟩
  | p :: os, fo, vs, 0, o, f, v, h, k => by
    simp only [RpOs] at h
    obtain ⟨u, r, a, b, rfl, rfl, h1, h2⟩ := h
    refine ⟨f ++ b, ?_, fun x => by simp only [List.count_append]; omega⟩
    simp only [List.set_cons_zero, RpOs]
    exact ⟨v, r, f, b, rfl, rfl, k, h2⟩
  | p :: os, fo, vs, j + 1, o, f, v, h, k => by
    simp only [RpOs] at h
    obtain ⟨u, r, a, b, rfl, rfl, h1, h2⟩ := h
    obtain ⟨f', k1, k2⟩ := RpOs.set (j := j) h2 k
    refine ⟨a ++ f', ?_, fun x => by have := k2 x; simp only [List.count_append]; omega⟩
    simp only [List.set_cons_succ, RpOs]
    exact ⟨u, _, a, f', rfl, rfl, h1, k1⟩
theorem RpOs.get : ∀ {os : List O} {fo : List Addr} {vs : List V} {j : Nat} {o : O}, RpOs g F H os fo vs → os[j]? = some o → ∃ v f, vs[j]? = some v ∧ RpO g F H o f v ∧ ∀ x, f.count x ≤ fo.count x
  | [], fo, vs, j, o, h, e => by simp at e
  | p :: os, fo, vs, 0, o, h, e => by
    simp at e; subst e
    simp only [RpOs] at h
    obtain ⟨u, r, a, b, rfl, rfl, h1, h2⟩ := h
    exact ⟨u, a, rfl, h1, fun x => by simp⟩
  | p :: os, fo, vs, j + 1, o, h, e => by
    simp only [RpOs] at h
    obtain ⟨u, r, a, b, rfl, rfl, h1, h2⟩ := h
    obtain ⟨v, f, k1, k2, k3⟩ := RpOs.get (j := j) h2 (by simpa using e)
    exact ⟨v, f, k1, k2, fun x => by have := k3 x; simp only [List.count_append]; omega⟩
end
/-! ### x[k] = e -/
def sSetIx (i : Nat) (fk : M D) (fe : M O) : MS := fun ρ => match fe ρ with
  | some (o, ρ1) => match ρ1[i]? with
    | some (some (.lst _)) => match fk ρ1 with
      | some (.int k, ρ2) => match ρ2[i]? with
        | some (some (.lst os)) => match ixN os.length k with
          | some j => some (.nx (ρ2.set i (some (.lst (os.set j o)))))
          | none => none
        | _ => none
      | _ => none
    | _ => none
  | none => none
/-- x[k] += e, ints -/
def sAugIx (i : Nat) (fk : M D) (op : Int → Int → Int) (fe : M D) : MS := fun ρ => match ρ[i]? with
  | some (some (.lst _)) => match fk ρ with
    | some (.int k, ρ1) => match ρ1[i]? with
      | some (some (.lst os)) => match atI os k with
        | some (.pur (.int a)) => match fe ρ1 with
          | some (.int b, ρ2) => match ρ2[i]? with
            | some (some (.lst os2)) => match ixN os2.length k with
              | some j => some (.nx (ρ2.set i (some (.lst (os2.set j (.pur (.int (op a b))))))))
              | none => none
            | _ => none
          | _ => none
        | _ => none
      | _ => none
    | _ => none
  | _ => none
/-- x += e, ints -/
def sAug (i : Nat) (op : Int → Int → Int) (fe : M D) : MS := fun ρ => match ρ[i]? with
  | some (some (.pur (.int a))) => match fe ρ with
    | some (.int b, ρ1) => if i < ρ1.length then some (.nx (ρ1.set i (some (.pur (.int (op a b)))))) else none
    | _ => none
  | _ => none
def rGetL (K : PySem.W.Frag) : V → V → Hp → VK → Prop := rIxL K
section
variable {X : Cx} {o e idx : Expr} {pos tpos : Pos} {ws : List Nat} {i : Nat} {fk fd : M D} {fe : M O}
theorem get_list : PGet X (rGetL X.K) := by
  intro pins s σ H x y v u Q I rx ry h
  obtain ⟨p, xs, k, z, rfl, rfl, hq, he, q⟩ := h
  cases rx
  obtain ⟨t, rfl⟩ := ry
  obtain ⟨its, r, pl, hz⟩ := I.list hq
  obtain ⟨j, h1, h2, h3, h4, h5⟩ := atI_get he
  obtain ⟨w, ew, rw'⟩ := r.get h2
  have hl := r.length
  have hn := line63
  by_cases h0 : 0 ≤ k
  · have hj : k.toNat = j := Option.some.inj ((seqIndex_of h0 h5).symm.trans h1)
    exact wpAny_getItem_list pl.isList h0 (by omega) (by rw [hj]; simpa using ew) ⟨z, H, I, rw', q⟩
  · have hj : (k + (its.toArray.size : Int)).toNat = j := by
      rw [List.size_toArray, ← hl]
      exact Option.some.inj ((seqIndex_neg (by omega) h4).symm.trans h1)
    exact wpAny_getItem_list_neg pl.isList (by omega) (by rw [List.size_toArray]; omega) (by omega) (by rw [hj]; simpa using ew) ⟨z, H, I, rw', q⟩
theorem s_setIx (ho : PE X o (tVar i)) (hi : PE X idx (tD (gx X) fk)) (he : PE X e (tE (gx X) fe))
    (ha : ∀ v, assign (.Subscript o idx tpos) X.env v = (do
      let ov ← holding [v] (eval o X.env)
      let iv ← holding [v, ov] (eval idx X.env)
      standAt tpos
      holding [v, ov, iv] (setItem ov iv v)
      release [v, ov, iv] []) := by intro _; rfl)
    (hs : swapsWithSole [.Subscript o idx tpos] e pos.line X.env = pure false := by rfl) (hw : swappedStores [.Subscript o idx tpos] e X.env = pure none := by rfl)
    (h1 : (assignEach [.Subscript o idx tpos] X.env).map (·.2) = [assign (.Subscript o idx tpos) X.env] := by rfl) :
    PS X (.Assign [.Subscript o idx tpos] e pos) (tS (gx X) ws (sSetIx i fk fe)) := (ps_asg he (pg_sub ho hi set_list ha) hs hw h1).impD fun {E σ H} ⟨F, ρ, fps, out, en, w, hf, q⟩ => by
  unfold sSetIx at hf
  split at hf
  · rename_i o1 ρ1 hfe
    split at hf
    · rename_i os0 hd0
      split at hf
      · rename_i k ρ2 hfk
        split at hf
        · rename_i os hd
          split at hf
          · rename_i j hj
            cases hf
            refine ⟨F, ρ, fps, o1, ρ1, en, w, hfe, fun F1 H1 p1 fp v x1 e1 w1 r1 => ?_⟩
            obtain ⟨a0, pre, f, post, hs0, _, r0, _⟩ := e1.at hd0
            simp only [RpO] at r0
            obtain ⟨a, vs0, f0, rfl, ha0, _, _⟩ := r0
            refine ⟨_, hs0, F1, ρ1, p1, _, ρ2, e1, w1.left, hfk, fun F2 H2 p2 kv x2 e2 w2 r2 => ?_⟩
            obtain ⟨wb, st⟩ := x2.beside w1 w2
            have r1' := RpO.mono (x2.frozen w1.left) _ _ _ st r1
            obtain ⟨a2, vs, fo, hs2, ha2, ro, kk⟩ := root_lst e2 wb hd
            rw [hs0] at hs2; cases hs2
            have ek : kv = .int k := by simpa [Rp] using r2
            subst ek
            refine ⟨_, vs, k, j, rfl, rfl, ha2, by rw [← ro.len]; exact hj, ?_⟩
            obtain ⟨f', k1, k2⟩ := ro.set (j := j) r1'
            obtain ⟨p', x3, e3, w3, _⟩ := kk _ _ f' [] k1 (fun x => by simpa using k2 x)
            exact q σ F2 _ p' (((x1.trans (x2.wide (f3 := fp))).trans x3).sub fun a m => List.mem_append_left _ m) e3 w3.left .refl
          · cases hf
        · cases hf
      · cases hf
    · cases hf
  · cases hf
theorem s_augIx {op : Operator} {f : Int → Int → Int} (hp : PIp X op (ipI f)) (ho : PE X o (tVar i)) (hi : PE X idx (tD (gx X) fk)) (he : PE X e (tD (gx X) fd))
    (ha : ∀ ov iv new, augStore idx ov iv new = (do holding [new, ov, iv] (setItem ov iv new); release [new, ov, iv] []; pure .next) := by intros; rfl) :
    PS X (.AugAssign (.Subscript o idx tpos) op e pos) (tS (gx X) ws (sAugIx i fk f fd)) := (ps_augS ho hi get_list he hp set_list ha).impD fun {E σ H} ⟨F, ρ, fps, out, en, w, hf, q⟩ => by
  unfold sAugIx at hf
  split at hf
  · rename_i os0 hd0
    split at hf
    · rename_i k ρ1 hfk
      split at hf
      · rename_i os1 hd1
        split at hf
        · rename_i a hat
          split at hf
          · rename_i b ρ2 hfe
            split at hf
            · rename_i os2 hd2
              split at hf
              · rename_i j hj
                cases hf
                obtain ⟨v0, pre, f0, post, hs0, _, r0, _⟩ := en.at hd0
                simp only [RpO] at r0
                obtain ⟨ad, vs0, f0', rfl, ha0, _, _⟩ := r0
                refine ⟨_, hs0, F, ρ, fps, _, ρ1, en, w, hfk, fun F1 H1 p1 kv x1 e1 w1 r1 => ?_⟩
                have ek : kv = .int k := by simpa [Rp] using r1
                subst ek
                obtain ⟨v1, _, _, _, hs1, _, rr1, _⟩ := e1.at hd1
                rw [hs0] at hs1; cases hs1
                simp only [RpO] at rr1
                obtain ⟨ad1, vs1, f1', e11, ha1, ro1, _⟩ := rr1
                cases e11
                obtain ⟨jj, hjj, hat'⟩ := Option.bind_eq_some_iff.mp (show (ixN os1.length k).bind (fun j => os1[j]?) = _ from hat)
                obtain ⟨u, fu, hu, ru, _⟩ := ro1.get hat'
                have eu : u = .int a := by have := ru; simp only [RpO, Rp] at this; exact this.2
                subst eu
                refine ⟨ad, vs1, k, _, rfl, rfl, .of ha1, (show (ixN vs1.length k).bind (fun j => vs1[j]?) = _ by rw [← ro1.len, hjj]; exact hu), ?_⟩
                refine ⟨F1, ρ1, p1, _, ρ2, e1, w1, hfe, fun F2 H2 p2 bv x2 e2 w2 r2 => ?_⟩
                have eb : bv = .int b := by simpa [Rp] using r2
                subst eb
                refine ⟨a, b, rfl, rfl, ?_⟩
                obtain ⟨ad2, vs2, fo2, hs2, ha2, ro2, kk⟩ := root_lst (fp := []) e2 (by simpa using w2) hd2
                rw [hs0] at hs2; cases hs2
                refine ⟨ad, vs2, k, j, rfl, rfl, ha2, by rw [← ro2.len]; exact hj, ?_⟩
                obtain ⟨f', k1, k2⟩ := ro2.set (j := j) (f := []) (o := .pur (.int (f a b))) (v := .int (f a b)) (by simp [RpO, Rp])
                obtain ⟨p', x3, e3, w3, _⟩ := kk _ _ f' [] k1 (fun x => by simpa using k2 x)
                refine q σ F2 _ p' ((x1.trans x2).trans ?_) e3 (by simpa using w3) .refl
                simpa using x3
              · cases hf
            · cases hf
          · cases hf
        · cases hf
      · cases hf
    · cases hf
  · cases hf
/-! ### a, b = x, y -/
def sPar2 (i j : Nat) (fs : M (List O)) : MS := fun ρ => match fs ρ with
  | some ([o1, o2], ρ1) => if i < ρ1.length ∧ j < ρ1.length then some (.nx ((ρ1.set i (some o1)).set j (some o2))) else none
  | _ => none
end
/-! ### three at once -/
def sPar3 (i j k : Nat) (fs : M (List O)) : MS := fun ρ => match fs ρ with
  | some ([o1, o2, o3], ρ1) => if i < ρ1.length ∧ j < ρ1.length ∧ k < ρ1.length then some (.nx (((ρ1.set i (some o1)).set j (some o2)).set k (some o3))) else none
  | _ => none
end DL
set_option Elab.async false
set_option linter.all false
set_option maxRecDepth 100000
set_option maxHeartbeats 400000
/-! The data layer: borrowing. -/
namespace DL
open PySem PySem.Spec PyProof.Rows L2
/-! ### borrowed: the slots that m does not name are read as frozen, and stand behind as they stood -/
mutual
def flat : D → Bool
  | .lst _ => false
  | .dct _ => false
  | .ins _ _ => false
  | .scr _ => false
  | .exv _ _ _ => false
  | .tup ds => flats ds
  | _ => true
def flats : List D → Bool
  | [] => true
  | d :: ds => flat d && flats ds
end
mutual
def flatO : O → Bool
  | .pur d => flat d
  | .lst os => flatOs os
  | .tup os => flatOs os
  | .dct os => flatOK os
  | .ins _ os => flatOF os
  | .shl _ _ => false
def flatOs : List O → Bool
  | [] => true
  | d :: ds => flatO d && flatOs ds
def flatOK : List (Key × O) → Bool
  | [] => true
  | (_, d) :: ds => flatO d && flatOK ds
def flatOF : List (Str × O) → Bool
  | [] => true
  | (_, d) :: ds => flatO d && flatOF ds
end
def frzE : List Bool → Env → Env
  | true :: m, s :: ρ => s :: frzE m ρ
  | _ :: m, s :: ρ => (s.map fun o => .pur o.fz) :: frzE m ρ
  | [], s :: ρ => (s.map fun o => .pur o.fz) :: frzE [] ρ
  | _, [] => []
def okS : Option O → Bool
  | some o => flatO o
  | none => true
/-- of ρ1 the slots of m, of ρ the others -/
def mixE : List Bool → Env → Env → Option Env
  | true :: m, s :: ρ, s1 :: ρ1 => if okS s1 = true then (mixE m ρ ρ1).map (s1 :: ·) else none
  | _ :: m, s :: ρ, _ :: ρ1 => (mixE m ρ ρ1).map (s :: ·)
  | [], s :: ρ, _ :: ρ1 => (mixE [] ρ ρ1).map (s :: ·)
  | _, [], [] => some []
  | _, _, _ => none
def eBor (m : List Bool) (f : M O) : M O := fun ρ => match f (frzE m ρ) with
  | some (o, ρ1) => if flatO o then (mixE m ρ ρ1).map (o, ·) else none
  | none => none
section
variable {g : G} {F F2 : AP} {H : Hp}
/-- frozen places that are no tuples may be taken back -/
def NoMut (H : Hp) (fr : List Addr) : Prop := ∀ a ∈ fr, ∀ vs, H a ≠ some (.tup vs)
mutual
theorem Rp.flatR {fr : List Addr} (nm : NoMut H fr) (hF : ∀ a, F a → a ∉ fr → F2 a) : ∀ (d : D) (v : V), DL.flat d = true → Rp g F H d v → Rp g F2 H d v
  | .non, v, _, r => by simpa [Rp] using r
  | .bl b, v, _, r => by simpa [Rp] using r
  | .int i, v, _, r => by simpa [Rp] using r
  | .str s, v, _, r => by simpa [Rp] using r
  | .ty s, v, _, r => by simpa [Rp] using r
  | .exv _ _ _, v, h, r => by simp [DL.flat] at h
  | .tup ds, v, h, r => by
    simp only [Rp] at r ⊢
    obtain ⟨a, vs, e, t, q⟩ := r
    refine ⟨a, vs, e, ?_, Rps.flatR nm hF ds vs (by simpa [DL.flat] using h) q⟩
    rcases t with ⟨f, t⟩ | t
    · exact .inl ⟨hF a f fun m => nm a m vs t, t⟩
    · exact .inr t
  | .lst _, v, h, r => by simp [DL.flat] at h
  | .dct _, v, h, r => by simp [DL.flat] at h
  | .ins _ _, v, h, r => by simp [DL.flat] at h
  | .scr _, v, h, r => by simp [DL.flat] at h
theorem Rps.flatR {fr : List Addr} (nm : NoMut H fr) (hF : ∀ a, F a → a ∉ fr → F2 a) : ∀ (ds : List D) (vs : List V), flats ds = true → Rps g F H ds vs → Rps g F2 H ds vs
  | [], vs, _, r => by simpa [Rps] using r
  | d :: ds, vs, h, r => by
    simp only [flats, Bool.and_eq_true] at h
    simp only [Rps] at r ⊢
    obtain ⟨v, q, e, r1, r2⟩ := r
    exact ⟨v, q, e, Rp.flatR nm hF d v h.1 r1, Rps.flatR nm hF ds q h.2 r2⟩
end
mutual
theorem RpO.flatR {fr : List Addr} (nm : NoMut H fr) (hF : ∀ a, F a → a ∉ fr → F2 a) : ∀ (o : O) (f : List Addr) (v : V), flatO o = true → RpO g F H o f v → RpO g F2 H o f v
  | .pur d, f, v, h, r => by
    simp only [RpO] at r ⊢
    exact ⟨r.1, Rp.flatR nm hF d v (by simpa [flatO] using h) r.2⟩
  | .tup os, f, v, h, r => by
    simp only [RpO] at r ⊢
    obtain ⟨a, vs, e, t, q⟩ := r
    refine ⟨a, vs, e, ?_, RpOs.flatR nm hF os f vs (by simpa [flatO] using h) q⟩
    rcases t with ⟨ff, t⟩ | t
    · exact .inl ⟨hF a ff fun m => nm a m vs t, t⟩
    · exact .inr t
  | .lst os, f, v, h, r => by
    simp only [RpO] at r ⊢
    obtain ⟨a, vs, q, e, t, r1, e2⟩ := r
    exact ⟨a, vs, q, e, t, RpOs.flatR nm hF os q vs (by simpa [flatO] using h) r1, e2⟩
  | .dct os, f, v, h, r => by
    simp only [RpO] at r ⊢
    obtain ⟨a, vs, q, e, t, r1, e2⟩ := r
    exact ⟨a, vs, q, e, t, RpOK.flatR nm hF os q vs (by simpa [flatO] using h) r1, e2⟩
  | .ins c os, f, v, h, r => by
    simp only [RpO] at r ⊢
    obtain ⟨a, C, dx, vs, q, e, t, m, r1, e2⟩ := r
    exact ⟨a, C, dx, vs, q, e, t, m, RpOF.flatR nm hF os q vs (by simpa [flatO] using h) r1, e2⟩
  | .shl c os, f, v, h, r => by simp [flatO] at h
theorem RpOs.flatR {fr : List Addr} (nm : NoMut H fr) (hF : ∀ a, F a → a ∉ fr → F2 a) : ∀ (os : List O) (f : List Addr) (vs : List V), flatOs os = true → RpOs g F H os f vs → RpOs g F2 H os f vs
  | [], f, vs, _, r => by simpa [RpOs] using r
  | d :: ds, f, vs, h, r => by
    simp only [flatOs, Bool.and_eq_true] at h
    simp only [RpOs] at r ⊢
    obtain ⟨v, q, f1, f2, e, e2, r1, r2⟩ := r
    exact ⟨v, q, f1, f2, e, e2, RpO.flatR nm hF d f1 v h.1 r1, RpOs.flatR nm hF ds f2 q h.2 r2⟩
theorem RpOK.flatR {fr : List Addr} (nm : NoMut H fr) (hF : ∀ a, F a → a ∉ fr → F2 a) : ∀ (os : List (Key × O)) (f : List Addr) (vs : List (Key × V)), flatOK os = true → RpOK g F H os f vs → RpOK g F2 H os f vs
  | [], f, vs, _, r => by simpa [RpOK] using r
  | (k, d) :: ds, f, vs, h, r => by
    simp only [flatOK, Bool.and_eq_true] at h
    simp only [RpOK] at r ⊢
    obtain ⟨v, q, f1, f2, e, e2, r1, r2⟩ := r
    exact ⟨v, q, f1, f2, e, e2, RpO.flatR nm hF d f1 v h.1 r1, RpOK.flatR nm hF ds f2 q h.2 r2⟩
theorem RpOF.flatR {fr : List Addr} (nm : NoMut H fr) (hF : ∀ a, F a → a ∉ fr → F2 a) : ∀ (os : List (Str × O)) (f : List Addr) (vs : List (Str × V)), flatOF os = true → RpOF g F H os f vs → RpOF g F2 H os f vs
  | [], f, vs, _, r => by simpa [RpOF] using r
  | (k, d) :: ds, f, vs, h, r => by
    simp only [flatOF, Bool.and_eq_true] at h
    simp only [RpOF] at r ⊢
    obtain ⟨v, q, f1, f2, e, e2, r1, r2⟩ := r
    exact ⟨v, q, f1, f2, e, e2, RpO.flatR nm hF d f1 v h.1 r1, RpOF.flatR nm hF ds f2 q h.2 r2⟩
end
end
section
variable {g : G} {F : AP} {H : Hp}
mutual
theorem RpO.nomut : ∀ (o : O) (f : List Addr) (v : V), RpO g F H o f v → NoMut H f
  | .pur d, f, v, r => by
    simp only [RpO] at r
    rw [r.1]
    intro a m; simp at m
  | .tup os, f, v, r => by
    simp only [RpO] at r
    obtain ⟨a, vs, e, t, q⟩ := r
    exact RpOs.nomut os f vs q
  | .lst os, f, v, r => by
    simp only [RpO] at r
    obtain ⟨a, vs, q, e, t, r1, rfl⟩ := r
    intro b m us
    rcases List.mem_cons.mp m with rfl | m
    · rw [t]; simp
    · exact RpOs.nomut os q vs r1 b m us
  | .dct os, f, v, r => by
    simp only [RpO] at r
    obtain ⟨a, vs, q, e, t, r1, rfl⟩ := r
    intro b m us
    rcases List.mem_cons.mp m with rfl | m
    · rw [t]; simp
    · exact RpOK.nomut os q vs r1 b m us
  | .ins c os, f, v, r => by
    simp only [RpO] at r
    obtain ⟨a, C, dx, vs, q, e, t, mm, r1, rfl⟩ := r
    intro b m us
    rcases List.mem_cons.mp m with rfl | m
    · rw [t]; simp
    · exact RpOF.nomut os q vs r1 b m us
  | .shl c os, f, v, r => by
    simp only [RpO] at r
    obtain ⟨a, C, dx, vs, e, ff, t, mm, r1⟩ := r
    exact RpOF.nomut os f vs r1
theorem RpOs.nomut : ∀ (os : List O) (f : List Addr) (vs : List V), RpOs g F H os f vs → NoMut H f
  | [], f, vs, r => by
    simp only [RpOs] at r
    rw [r.1]
    intro a m; simp at m
  | o :: os, f, vs, r => by
    simp only [RpOs] at r
    obtain ⟨v, q, f1, f2, e, rfl, r1, r2⟩ := r
    intro b m us
    rcases List.mem_append.mp m with m | m
    · exact RpO.nomut o f1 v r1 b m us
    · exact RpOs.nomut os f2 q r2 b m us
theorem RpOK.nomut : ∀ (os : List (Key × O)) (f : List Addr) (vs : List (Key × V)), RpOK g F H os f vs → NoMut H f
  | [], f, vs, r => by
    simp only [RpOK] at r
    rw [r.1]
    intro a m; simp at m
  | (k, o) :: os, f, vs, r => by
    simp only [RpOK] at r
    obtain ⟨v, q, f1, f2, e, rfl, r1, r2⟩ := r
    intro b m us
    rcases List.mem_append.mp m with m | m
    · exact RpO.nomut o f1 v r1 b m us
    · exact RpOK.nomut os f2 q r2 b m us
theorem RpOF.nomut : ∀ (os : List (Str × O)) (f : List Addr) (vs : List (Str × V)), RpOF g F H os f vs → NoMut H f
  | [], f, vs, r => by
    simp only [RpOF] at r
    rw [r.1]
    intro a m; simp at m
  | (k, o) :: os, f, vs, r => by
    simp only [RpOF] at r
    obtain ⟨v, q, f1, f2, e, rfl, r1, r2⟩ := r
    intro b m us
    rcases List.mem_append.mp m with m | m
    · exact RpO.nomut o f1 v r1 b m us
    · exact RpOF.nomut os f2 q r2 b m us
end
/-- what of the slots is lent, what is not -/
theorem EnvR.lend : ∀ (m : List Bool) {ρ : Env} {fps : List Addr} {σ : L2.St}, EnvR g F H ρ fps σ → ∃ fc fr : List Addr, (∀ a, fps.count a = fc.count a + fr.count a) ∧ NoMut H fr ∧
    (∀ F' : AP, (∀ a, F a → F' a) → (∀ a ∈ fr, F' a) → EnvR g F' H (frzE m ρ) fc σ) ∧
    (∀ (F1 F2 : AP) (H2 : Hp) (fx : List Addr) (ρ1 ρ' : Env) (f1 : List Addr), EnvR g F1 H2 ρ1 f1 σ → mixE m ρ ρ1 = some ρ' → (∀ a, F a → F2 a ∧ H2 a = H a) → (∀ a ∈ fr, H2 a = H a) → NoMut H2 fx → (∀ a, F1 a → a ∉ fx → F2 a) →
      ∃ f2, EnvR g F2 H2 ρ' f2 σ ∧ ∀ a, f2.count a ≤ f1.count a + fr.count a)
  | m, [], fps, σ, en => by
    simp only [EnvR] at en
    obtain ⟨rfl, rfl⟩ := en
    refine ⟨[], [], fun a => rfl, fun a m => by simp at m, fun F' _ _ => ?_, fun F1 F2 H2 fx ρ1 ρ' f1 e1 hm _ _ _ _ => ?_⟩
    · cases m with
      | nil => simp [frzE, EnvR]
      | cons b m => cases b <;> simp [frzE, EnvR]
    · cases ρ1 with
      | nil =>
        have : ρ' = [] := by
          cases m with
          | nil => simp [mixE] at hm; exact hm
          | cons b m => cases b <;> (simp [mixE] at hm; exact hm)
        subst this
        exact ⟨[], by simp [EnvR], by simp⟩
      | cons x r =>
        cases x with
        | none => simp only [EnvR] at e1; obtain ⟨_, _, h, _⟩ := e1; cases h
        | some o => simp only [EnvR] at e1; obtain ⟨_, _, _, _, h, _⟩ := e1; cases h
  | m, s :: ρ, fps, σ, en => by
    -- the tail's mask, and whether this slot is kept
    obtain ⟨b, m', hfz, hmx⟩ : ∃ (b : Bool) (m' : List Bool), frzE m (s :: ρ) = (if b = true then s else s.map fun o => O.pur o.fz) :: frzE m' ρ ∧
        ∀ s1 ρ1, mixE m (s :: ρ) (s1 :: ρ1) = if b = true then (if okS s1 = true then (mixE m' ρ ρ1).map (s1 :: ·) else none) else (mixE m' ρ ρ1).map (s :: ·) := by
      cases m with
      | nil => exact ⟨false, [], by simp [frzE], fun s1 ρ1 => by simp [mixE]⟩
      | cons b m =>
        cases b with
        | true => exact ⟨true, m, by simp [frzE], fun s1 ρ1 => by simp [mixE]⟩
        | false => exact ⟨false, m, by simp [frzE], fun s1 ρ1 => by simp [mixE]⟩
    have noNil : ∀ ρ', mixE m (s :: ρ) [] = some ρ' → False := fun ρ' h => by
      cases m with
      | nil => simp [mixE] at h
      | cons b m => cases b <;> simp [mixE] at h
    rw [hfz]
    -- the slots of ρ1, the same length
    have tails : ∀ {F1 : AP} {H2 : Hp} {s1 : Option O} {ρ1 : Env} {f1 : List Addr} {x : Option V} {τ : L2.St}, EnvR g F1 H2 (s1 :: ρ1) f1 (x :: τ) → ∃ fa fb, f1 = fa ++ fb ∧ EnvR g F1 H2 ρ1 fb τ ∧ (∀ o, s1 = some o → ∃ v, x = some v ∧ RpO g F1 H2 o fa v) := fun {F1 H2 s1 ρ1 f1 x τ} e => by
      cases s1 with
      | none =>
        simp only [EnvR] at e
        obtain ⟨y, t, h, q⟩ := e
        cases h
        exact ⟨[], f1, rfl, q, fun o h => by cases h⟩
      | some o =>
        simp only [EnvR] at e
        obtain ⟨v, t, fa, fb, h, rfl, r, q⟩ := e
        cases h
        exact ⟨fa, fb, rfl, q, fun o' h => by cases h; exact ⟨v, rfl, r⟩⟩
    cases s with
    | none =>
      simp only [EnvR] at en
      obtain ⟨x, τ, rfl, en⟩ := en
      obtain ⟨fc, fr, h1, h2, h3, h4⟩ := EnvR.lend m' en
      refine ⟨fc, fr, h1, h2, fun F' k1 k2 => ?_, fun F1 F2 H2 fx ρ1 ρ' f1 e1 hm k1 k2 k3 k4 => ?_⟩
      · have : (if b = true then (none : Option O) else Option.map (fun (o : O) => O.pur o.fz) none) = none := by cases b <;> rfl
        rw [this]
        simp only [EnvR]
        exact ⟨x, τ, rfl, h3 F' k1 k2⟩
      · cases ρ1 with
        | nil => exact (noNil _ hm).elim
        | cons s1 ρ1 =>
          obtain ⟨fa, fb, rfl, e1', hs⟩ := tails e1
          rw [hmx] at hm
          split at hm
          · split at hm
            · rename_i hfl
              obtain ⟨ρ2, hm2, rfl⟩ := Option.map_eq_some_iff.mp hm
              obtain ⟨f2, q1, q2⟩ := h4 F1 F2 H2 fx ρ1 ρ2 fb e1' hm2 k1 k2 k3 k4
              cases s1 with
              | none => exact ⟨f2, by simp only [EnvR]; exact ⟨x, τ, rfl, q1⟩, fun a => by have := q2 a; simp only [List.count_append]; omega⟩
              | some o =>
                obtain ⟨v, rfl, r⟩ := hs o rfl
                refine ⟨fa ++ f2, ?_, fun a => by have := q2 a; simp only [List.count_append]; omega⟩
                simp only [EnvR]
                exact ⟨v, τ, fa, f2, rfl, rfl, RpO.flatR k3 k4 o fa v hfl r, q1⟩
            · cases hm
          · obtain ⟨ρ2, hm2, rfl⟩ := Option.map_eq_some_iff.mp hm
            obtain ⟨f2, q1, q2⟩ := h4 F1 F2 H2 fx ρ1 ρ2 fb e1' hm2 k1 k2 k3 k4
            exact ⟨f2, by simp only [EnvR]; exact ⟨x, τ, rfl, q1⟩, fun a => by have := q2 a; simp only [List.count_append]; omega⟩
    | some o =>
      simp only [EnvR] at en
      obtain ⟨v, τ, fo, ft, rfl, rfl, ro, en⟩ := en
      obtain ⟨fc, fr, h1, h2, h3, h4⟩ := EnvR.lend m' en
      cases b with
      | true =>
        refine ⟨fo ++ fc, fr, fun a => by have := h1 a; simp only [List.count_append]; omega, h2, fun F' k1 k2 => ?_, fun F1 F2 H2 fx ρ1 ρ' f1 e1 hm k1 k2 k3 k4 => ?_⟩
        · rw [if_pos rfl]
          simp only [EnvR]
          exact ⟨v, τ, fo, fc, rfl, rfl, RpO.mono (fun a h => ⟨k1 a h, rfl⟩) _ _ _ (fun _ _ => rfl) ro, h3 F' k1 k2⟩
        · cases ρ1 with
          | nil => exact (noNil _ hm).elim
          | cons s1 ρ1 =>
            obtain ⟨fa, fb, rfl, e1', hs⟩ := tails e1
            rw [hmx, if_pos rfl] at hm
            split at hm
            · rename_i hfl
              obtain ⟨ρ2, hm2, rfl⟩ := Option.map_eq_some_iff.mp hm
              obtain ⟨f2, q1, q2⟩ := h4 F1 F2 H2 fx ρ1 ρ2 fb e1' hm2 k1 k2 k3 k4
              cases s1 with
              | none => exact ⟨f2, by simp only [EnvR]; exact ⟨_, τ, rfl, q1⟩, fun a => by have := q2 a; simp only [List.count_append]; omega⟩
              | some o1 =>
                obtain ⟨v1, e, r⟩ := hs o1 rfl
                cases e
                refine ⟨fa ++ f2, ?_, fun a => by have := q2 a; simp only [List.count_append]; omega⟩
                simp only [EnvR]
                exact ⟨v, τ, fa, f2, rfl, rfl, RpO.flatR k3 k4 o1 fa v hfl r, q1⟩
            · cases hm
      | false =>
        refine ⟨fc, fo ++ fr, fun a => by have := h1 a; simp only [List.count_append]; omega, fun a m => (List.mem_append.mp m).elim (RpO.nomut o fo v ro a) (h2 a), fun F' k1 k2 => ?_, fun F1 F2 H2 fx ρ1 ρ' f1 e1 hm k1 k2 k3 k4 => ?_⟩
        · rw [if_neg Bool.false_ne_true]
          simp only [Option.map_some, EnvR]
          refine ⟨v, τ, [], fc, rfl, rfl, ?_, h3 F' k1 fun a m => k2 a (List.mem_append_right _ m)⟩
          simp only [RpO]
          exact ⟨by simp, RpO.frz k1 o fo v (fun a m => k2 a (List.mem_append_left _ m)) ro⟩
        · cases ρ1 with
          | nil => exact (noNil _ hm).elim
          | cons s1 ρ1 =>
            obtain ⟨fa, fb, rfl, e1', hs⟩ := tails e1
            rw [hmx, if_neg Bool.false_ne_true] at hm
            obtain ⟨ρ2, hm2, rfl⟩ := Option.map_eq_some_iff.mp hm
            obtain ⟨f2, q1, q2⟩ := h4 F1 F2 H2 fx ρ1 ρ2 fb e1' hm2 k1 (fun a m => k2 a (List.mem_append_right _ m)) k3 k4
            refine ⟨fo ++ f2, ?_, fun a => by have := q2 a; simp only [List.count_append]; omega⟩
            simp only [EnvR]
            exact ⟨v, τ, fo, f2, rfl, rfl, RpO.mono k1 _ _ _ (fun a m => k2 a (List.mem_append_left _ m)) ro, q1⟩
theorem rd_bor {m : List Bool} {f : M O} {σ : L2.St} {Q : VK} (h : tE g (eBor m f) σ H Q) : tE g f σ H Q := by
  obtain ⟨F, ρ, fps, o, ρ', en, w, hf, q⟩ := h
  unfold eBor at hf
  split at hf
  · rename_i o1 ρ1 hfz
    split at hf
    · rename_i hfl
      obtain ⟨ρ2, hm, h2⟩ := Option.map_eq_some_iff.mp hf
      cases h2
      obtain ⟨fc, fr, c1, nm, k1, k2⟩ := en.lend m
      have cn := List.nodup_iff_count.mp w.nd
      have memr : ∀ a ∈ fr, a ∈ fps := fun a h => List.count_pos_iff.mp (by have := List.count_pos_iff.mpr h; have := c1 a; omega)
      have memc : ∀ a ∈ fc, a ∈ fps := fun a h => List.count_pos_iff.mp (by have := List.count_pos_iff.mpr h; have := c1 a; omega)
      have disj : ∀ a ∈ fc, a ∉ fr := fun a h1 h2 => by
        have h3 := List.count_pos_iff.mpr h1
        have h4 := List.count_pos_iff.mpr h2
        have := c1 a
        have := cn a
        omega
      have e1 := k1 (frzF F fr) (fun a h => .inl h) fun a h => .inr h
      have w1 : Wd (frzF F fr) H fc := ⟨List.nodup_iff_count.mpr fun a => by have := c1 a; have := cn a; omega, fun a h => ⟨(w.own a (memc a h)).1, fun z => z.elim (w.own a (memc a h)).2 (disj a h)⟩,
        fun a z => z.elim (w.fro a) fun z => (w.own a (memr a z)).1⟩
      refine ⟨frzF F fr, _, fc, o, ρ1, e1, w1, hfz, fun F1 H1 p1 fp v x1 e1' w1' r1 => ?_⟩
      -- behind it the lent places are taken back
      have kfr : ∀ a ∈ fr, H1 a = H a := fun a h => x1.keep a (w.own a (memr a h)).1 fun z => disj a z h
      have F1fr : ∀ a ∈ fr, F1 a := fun a h => x1.fF a (.inr h)
      have nm1 : NoMut H1 fr := fun a h vs => by rw [kfr a h]; exact nm a h vs
      let F2 : AP := fun a => F1 a ∧ a ∉ fr
      have toF2 : ∀ a, F1 a → a ∉ fr → F2 a := fun a h n => ⟨h, n⟩
      have fF : ∀ a, F a → F2 a ∧ H1 a = H a := fun a h => ⟨⟨x1.fF a (.inl h), fun z => (w.own a (memr a z)).2 h⟩, x1.keep a (w.fro a h) fun z => (w.own a (memc a z)).2 h⟩
      obtain ⟨f2, e2, c2⟩ := k2 F1 F2 H1 fr ρ1 ρ' p1 e1' hm fF kfr nm1 toF2
      have cn1 := List.nodup_iff_count.mp w1'.nd
      have d1 : ∀ a ∈ p1 ++ fp, a ∉ fr := fun a h z => (w1'.own a h).2 (F1fr a z)
      have cle : ∀ a, (f2 ++ fp).count a ≤ 1 := fun a => by
        have h1 := c2 a
        have h2 := cn1 a
        have h3 := c1 a
        have h4 := cn a
        simp only [List.count_append] at h2 ⊢
        by_cases z : a ∈ fr
        · have z1 : (p1 ++ fp).count a = 0 := List.count_eq_zero.mpr fun y => d1 a y z
          simp only [List.count_append] at z1
          omega
        · have z1 : fr.count a = 0 := List.count_eq_zero.mpr z
          omega
      have mem2 : ∀ a ∈ f2, a ∈ p1 ∨ a ∈ fr := fun a h => by
        have := c2 a
        have h1 := List.count_pos_iff.mpr h
        by_cases z : a ∈ p1
        · exact .inl z
        · have : p1.count a = 0 := List.count_eq_zero.mpr z
          exact .inr (List.count_pos_iff.mp (by omega))
      refine q F2 H1 f2 fp v ⟨fun a h => (fF a h).1, fun a h n => x1.keep a h fun z => n (memc a z), x1.dom, fun a h => ?_, fun a h => ?_⟩ e2 ⟨List.nodup_iff_count.mpr cle, fun a h => ?_, fun a h => w1'.fro a h.1⟩ (RpO.flatR nm1 toF2 o fp v hfl r1)
      · rcases List.mem_append.mp h with h | h
        · rcases mem2 a h with z | z
          · exact (x1.own a (List.mem_append_left _ z)).imp (memc a) id
          · exact .inl (memr a z)
        · exact (x1.own a (List.mem_append_right _ h)).imp (memc a) id
      · rcases x1.newF a h.1 with z | z | z
        · exact z.elim .inl fun z => absurd z h.2
        · exact .inr (.inl (memc a z))
        · exact .inr (.inr z)
      · rcases List.mem_append.mp h with h | h
        · rcases mem2 a h with z | z
          · exact ⟨(w1'.own a (List.mem_append_left _ z)).1, fun y => (w1'.own a (List.mem_append_left _ z)).2 y.1⟩
          · exact ⟨by rw [kfr a z]; exact (w.own a (memr a z)).1, fun y => y.2 z⟩
        · exact ⟨(w1'.own a (List.mem_append_right _ h)).1, fun y => (w1'.own a (List.mem_append_right _ h)).2 y.1⟩
    · cases hf
  · cases hf
end
def tBor (m : List Bool) (f : M Bool) : M Bool := fun ρ => match f (frzE m ρ) with
  | some (b, ρ1) => (mixE m ρ ρ1).map (b, ·)
  | none => none
section
variable {g : G} {H : Hp}
theorem rd_tbor {m : List Bool} {f : M Bool} {σ : L2.St} {Q : Bool → Hp → Prop} (h : tT g (tBor m f) σ H Q) : tT g f σ H Q := by
  -- by the rule for values: the bool as a value that is dropped
  obtain ⟨F, ρ, fps, b, ρ', en, w, hf, q⟩ := h
  have h2 : tE g (eBor m (bnd f fun b => ret (.pur (.bl b)))) σ H fun v H' => ∃ c, v = .bl c ∧ Q c H' := by
    refine ⟨F, ρ, fps, .pur (.bl b), ρ', en, w, ?_, fun F' H' p' fp v x e w' r => ⟨b, by have := r; simp only [RpO, Rp] at this; exact this.2, q F' H' p' (x.sub fun a m => List.mem_append_left _ m) e w'.left⟩⟩
    unfold tBor at hf
    unfold eBor bnd
    split at hf
    · rename_i b1 ρ1 hh
      obtain ⟨ρ2, hm, h3⟩ := Option.map_eq_some_iff.mp hf
      cases h3
      rw [hh]
      simp only [ret, flatO, flat, if_true, hm, Option.map_some]
    · cases hf
  obtain ⟨F1, ρ1, f1, o, ρ2, e1, w1, hf1, q1⟩ := rd_bor h2
  obtain ⟨b1, ρ3, h3, h4⟩ := bnd_some.mp hf1
  obtain ⟨rfl, rfl⟩ := ret_some.mp h4
  refine ⟨F1, ρ1, f1, b1, _, e1, w1, h3, fun F' H' p' x e w' => ?_⟩
  obtain ⟨c, hc, hq⟩ := q1 F' H' p' [] (.bl b1) (by simpa using x) e (by simpa using w') (by simp [RpO, Rp])
  cases hc
  exact hq
end
section
variable {X : Cx} {e : Expr}
theorem t_bor {f : M Bool} (m : List Bool) (h : PT X e (tT (gx X) f)) : PT X e (tT (gx X) (tBor m f)) := h.impD rd_tbor
theorem e_bor {f : M O} (m : List Bool) (h : PE X e (tE (gx X) f)) : PE X e (tE (gx X) (eBor m f)) := h.impD rd_bor
end
end DL
set_option Elab.async false
set_option linter.all false
set_option maxRecDepth 100000
set_option maxHeartbeats 4000000
/-! The data layer: the law's own promise; chains of comparisons. -/
namespace DL
open PySem PySem.Spec PyProof.Rows L2
theorem law_sp {g : G} {f : List O → Option (O × List O)} {H : Hp} {a : Addr} {ns : List Int} (hO : Only H) (hS : SqL g.K H a (ns.map V.int)) (hf : f [.pur (.scr ns)] = some (.pur (.bl true), [])) :
    spF g 1 [] f [.ref a] H (fun v _ => v = .bl true) fun _ _ _ => False := by
  obtain ⟨F, sc, fro⟩ : ∃ F : AP, ScrAt g.K F H a (ns.map V.int) ∧ ∀ b, F b → H b ≠ none := by
    rcases hS with h | h
    · rcases h with h | ⟨ob, h⟩
      · rcases hO a with z | ⟨o, xs, z⟩
        · rw [h] at z; cases z
        · rw [h] at z; cases z
      · exact ⟨fun b => b = a, .inl ⟨rfl, ob, h⟩, fun b e => by rw [e, h]; simp⟩
    · exact ⟨fun _ => False, .inr h, fun b e => e.elim⟩
  refine ⟨rfl, F, [], _, _, _, ?_, ⟨by simp, fun b m => by simp at m, fro⟩, hf, fun F' H' fo fp v x ra w r => ?_⟩
  · simp only [RpOs, RpO, Rp]
    exact ⟨.ref a, [], [], [], rfl, rfl, ⟨rfl, a, rfl, sc⟩, rfl, rfl⟩
  · simp only [RpO, Rp] at r
    exact r.2
/-! a op b op c -/
def dChain (o1 o2 : D → D → Option D) (fa fb fc : M D) : M D := bnd fa fun x => bnd fb fun y => bnd (opt ((o1 x y).bind asB)) fun c => if c = true then bnd fc fun z => opt (o2 y z) else ret (.bl false)
def tChain (o1 o2 : D → D → Option D) (fa fb fc : M D) : M Bool := bnd (dChain o1 o2 fa fb fc) fun x => opt (asB x)
section
variable {g : G} {r r' : R2} {o1 o2 : D → D → Option D} {fa fb fc : M D} {σ : L2.St} {H : Hp} {Q : VK}
theorem rd_chain (h1 : OpD g r o1) (h2 : OpD g r' o2) (h : tD g (dChain o1 o2 fa fb fc) σ H Q) : L2.tChain r r' (tD g fa) (tD g fb) (tD g fc) σ H Q := by
  obtain ⟨F, ρ, fps, d, ρ', e, w, hf, q⟩ := h
  obtain ⟨x, ρ1, k1, hf⟩ := bnd_some.mp hf
  obtain ⟨y, ρ2, k2, hf⟩ := bnd_some.mp hf
  obtain ⟨c, ρ3, k3, hf⟩ := bnd_some.mp hf
  obtain ⟨k4, rfl⟩ := opt_some.mp k3
  obtain ⟨z, k5, k6⟩ := Option.bind_eq_some_iff.mp k4
  have ez := asB_some k6
  subst ez
  refine ⟨F, ρ, fps, x, ρ1, e, w, k1, fun F1 H1 p1 v1 x1 e1 w1 r1 => ⟨F1, ρ1, p1, y, _, e1, w1, k2, fun F2 H2 p2 v2 x2 e2 w2 r2 => ?_⟩⟩
  refine h1 F2 H2 v1 v2 x y _ _ w2.fro (Rp.mono (x2.frozen w1) _ _ r1) r2 k5 fun F3 H3 v n r => ?_
  obtain ⟨x3, e3, w3⟩ := n.go e2 w2
  refine ⟨c, by simpa [Rp] using r, ?_⟩
  cases c with
  | false =>
    obtain ⟨rfl, rfl⟩ := ret_some.mp hf
    exact q F3 H3 p2 _ ((x1.trans x2).trans x3) e3 w3 (by simp [Rp])
  | true =>
    obtain ⟨z, ρ4, k7, hf⟩ := bnd_some.mp hf
    obtain ⟨k8, rfl⟩ := opt_some.mp hf
    refine ⟨F3, _, p2, z, _, e3, w3, k7, fun F4 H4 p4 v4 x4 e4 w4 r4 => ?_⟩
    refine h2 F4 H4 v2 v4 y z _ _ w4.fro (Rp.mono (x4.frozen w3) _ _ (Rp.mono (n.frozen w2.fro) _ _ r2)) r4 k8 fun F5 H5 v n2 r => ?_
    obtain ⟨x5, e5, w5⟩ := n2.go e4 w4
    exact q F5 H5 p4 v ((((x1.trans x2).trans x3).trans x4).trans x5) e5 w5 r
theorem rd_tchain {Q : Bool → Hp → Prop} (h1 : OpD g r o1) (h2 : OpD g r' o2) (h : tT g (tChain o1 o2 fa fb fc) σ H Q) : tTest (L2.tChain r r' (tD g fa) (tD g fb) (tD g fc)) σ H Q := by
  refine rd_chain h1 h2 ?_
  obtain ⟨F, ρ, fps, d, ρ', e, w, hf, q⟩ := h
  obtain ⟨x, ρ1, k1, hf⟩ := bnd_some.mp hf
  obtain ⟨k2, rfl⟩ := opt_some.mp hf
  have ex := asB_some k2
  subst ex
  exact ⟨F, ρ, fps, _, _, e, w, k1, fun F' H' p' v x e w r => ⟨d, by simpa [Rp] using r, q F' H' p' x e w⟩⟩
end
section
variable {X : Cx} {a b c : Expr} {fa fb fc : M D} {pos : Pos} (ha : PE X a (tD (gx X) fa)) (hb : PE X b (tD (gx X) fb)) (hc : PE X c (tD (gx X) fc))
include ha hb hc
theorem d_chainle_le (hm : lastMarks [.LtE, .LtE] [b, c] = false := by with_unfolding_all rfl) : PE X (.Compare a [.LtE, .LtE] [b, c] pos) (tD (gx X) (dChain leD leD fa fb fc)) := (pe_chain op_le op_le ha hb hc hm).impD (rd_chain (od_int0 fun _ _ _ _ => by simp [Rp]) (od_int0 fun _ _ _ _ => by simp [Rp]))
theorem d_chainle_lt (hm : lastMarks [.LtE, .Lt] [b, c] = false := by with_unfolding_all rfl) : PE X (.Compare a [.LtE, .Lt] [b, c] pos) (tD (gx X) (dChain leD ltD fa fb fc)) := (pe_chain op_le op_lt ha hb hc hm).impD (rd_chain (od_int0 fun _ _ _ _ => by simp [Rp]) (od_int0 fun _ _ _ _ => by simp [Rp]))
theorem t_chainle_le (hm : lastMarks [.LtE, .LtE] [b, c] = false := by with_unfolding_all rfl) : PT X (.Compare a [.LtE, .LtE] [b, c] pos) (tT (gx X) (tChain leD leD fa fb fc)) := (pt_chain op_le op_le ha hb hc hm).impD (rd_tchain (od_int0 fun _ _ _ _ => by simp [Rp]) (od_int0 fun _ _ _ _ => by simp [Rp]))
end
end DL
set_option Elab.async false
set_option linter.all false
set_option maxRecDepth 100000
set_option maxHeartbeats 4000000
/-! An object handed over whose slot later arguments still use. -/
namespace DL
open PySem PySem.Spec PyProof.Rows L2
def eaLate (i : Nat) (fs : M (List O)) : M (List O) := fun ρ => match ρ[i]? with
  | some (some _) => match fs ρ with
    | some (os, ρ1) => match ρ1[i]? with
      | some (some o) => some (o :: os, ρ1.set i none)
      | _ => none
    | none => none
  | _ => none
section
variable {X : Cx} {e : Expr} {es : List Expr} {ms : List (Option Nat)} {fs : M (List O)} {i : Nat}
theorem ai_late (ha : PE X e (tVar i)) (hr : PA X es (tAI (gx X) ms fs)) (hs : starEach (e :: es) X.env = (false, eval e X.env) :: starEach es X.env := by rfl) : PA X (e :: es) (tAI (gx X) (some i :: ms) (eaLate i fs)) := (pa_cons ha hr hs).impD fun {σ H Q} ⟨F, ρ, fps, d, ρ', en, w, hf, q⟩ => by
  unfold eaLate at hf
  split at hf
  · rename_i o0 h0
    split at hf
    · rename_i os ρ1 h1
      split at hf
      · rename_i o h2
        cases hf
        obtain ⟨v0, _, _, _, hs0, _, _, _⟩ := en.at h0
        refine ⟨v0, hs0, F, ρ, fps, os, ρ1, en, w, h1, fun F2 H2 p2 fp2 vs x2 e2 w2 r2 i2 => ?_⟩
        obtain ⟨v, pre, f, post, hs, rfl, r, k⟩ := e2.at h2
        obtain ⟨k1, _⟩ := k F2 H2 (fun a h => ⟨h, rfl⟩) fun _ _ => rfl
        have k1 := k1 (some v)
        rw [set_same hs] at k1
        have ev : v0 = v := by rw [hs] at hs0; cases hs0; rfl
        subst ev
        have pm : ((pre ++ (f ++ post)) ++ fp2).Perm ((pre ++ post) ++ (f ++ fp2)) := List.perm_iff_count.mpr fun a => by simp only [List.count_append]; omega
        exact q F2 H2 (pre ++ post) (f ++ fp2) (v0 :: vs) (x2.perm pm) k1 (w2.perm pm) (by simp only [RpOs]; exact ⟨v0, vs, f, fp2, rfl, rfl, r, r2⟩) ⟨hs, i2⟩
      · cases hf
    · cases hf
  · cases hf
end
theorem Ev_lateM {ρ : Env} {i : Nat} {fs : M (List O)} {os : List O} {ρ1 : Env} {o0 o : O} (h0 : ρ[i]? = some (some o0)) (h1 : fs ρ = some (os, ρ1)) (h2 : ρ1[i]? = some (some o)) : eaLate i fs ρ = some (o :: os, ρ1.set i none) := by
  unfold eaLate
  rw [h0]
  simp only [h1, h2]
end DL
set_option Elab.async false
set_option linter.all false
set_option maxRecDepth 100000
set_option maxHeartbeats 4000000
/-! max and min of a list or tuple, with default= too; xs[::-1]; list(range(..)) -/
namespace DL
open PySem PySem.Spec PyProof.Rows L2
/-! over data -/
/-! one argument, two arguments, of a rule that has them apart -/
section
variable {g : G} {σ : L2.St} {H : Hp} {f f2 : M D} {fs : M (List D)}
theorem tD.mono {Q Q' : VK} (h : tD g f σ H Q) (k : ∀ x H1, Q x H1 → Q' x H1) : tD g f σ H Q' := by
  obtain ⟨F, ρ, fps, d, ρ', e, w, hf, q⟩ := h
  exact ⟨F, ρ, fps, d, ρ', e, w, hf, fun F1 H1 p1 v x1 e1 w1 r1 => k v H1 (q F1 H1 p1 v x1 e1 w1 r1)⟩
end
/-! xs[::-1], list(range(..)) -/
/-! a slot frozen ahead of a statement -/
def sFrz (i : Nat) (f : MS) : MS := fun ρ => match ρ[i]? with
  | some (some o) => f (ρ.set i (some (.pur o.fz)))
  | _ => none
theorem s_frz {X : Cx} {st : Stmt} {ws : List Nat} {f : MS} {i : Nat} (h : PS X st (tS (gx X) ws f)) : PS X st (tS (gx X) ws (sFrz i f)) := h.impD fun {E σ H} ⟨F, ρ, fps, out, en, w, hf, q⟩ => by
  unfold sFrz at hf
  split at hf
  · rename_i o' hd
    obtain ⟨v, pre, f', post, hs, rfl, r, k⟩ := en.at hd
    have r2 : Rp (gx X) (frzF F f') H o'.fz v := RpO.frz (fun a h => Or.inl h) o' f' v (fun a m => Or.inr m) r
    obtain ⟨_, k1⟩ := k (frzF F f') H (fun a h => ⟨.inl h, rfl⟩) fun _ _ => rfl
    have k1 := k1 (.pur o'.fz) [] v (by simp only [RpO]; exact ⟨trivial, r2⟩)
    rw [set_same hs] at k1
    exact ⟨frzF F f', _, pre ++ post, out, by simpa using k1, (w.perm (perm_mid ..)).frz, hf, q.step ((Ext.refl.perm (perm_mid ..)).trans Ext.frz) .refl⟩
  · cases hf
end DL
set_option Elab.async false
set_option linter.all false
set_option maxRecDepth 100000
set_option maxHeartbeats 4000000
/-! list(zip(xs, ys)) of two lists -/
namespace LiZ
open PySem PySem.W PySem.Calls PyProof.Rows PyProof.V PySem.Spec
def ZSt (h : Heap) (z TI TO i1 i2 l1 l2 S : Addr) (xs ys : Array Value) (i : Nat) : Prop :=
  IsPair h TI (.ref i1) (.ref i2) ∧ h.IsListIter i1 l1 i ∧ h.IsListIter i2 l2 i ∧ h.IsList l1 xs ∧ h.IsList l2 ys ∧
    ((IsZip h z TI TO .none ∧ ∃ a b, IsPair h TO a b) ∨ ∃ T f oT, IsZipHeld h z TI TO T f ∧ h.get? T = some oT ∧ T ≠ z ∧ T ≠ i1 ∧ T ≠ i2 ∧ T ≠ S)
theorem ZSt.keep {h h' : Heap} {z TI TO i1 i2 l1 l2 S : Addr} {xs ys : Array Value} {i : Nat} (st : ZSt h z TI TO i1 i2 l1 l2 S xs ys i) (hS : ∀ b ∈ [z, TI, TO, i1, i2, l1, l2], b ≠ S) (hk : ∀ b o, b ≠ S → h.get? b = some o → h'.get? b = some o) : ZSt h' z TI TO i1 i2 l1 l2 S xs ys i := by
  obtain ⟨hTI, h1, h2, hl1, hl2, hz⟩ := st
  simp only [List.mem_cons, List.not_mem_nil, or_false] at hS
  refine ⟨hk _ _ (hS TI (by simp)) hTI, h1.at fun o e => hk _ o (hS i1 (by simp)) e, h2.at fun o e => hk _ o (hS i2 (by simp)) e, hl1.at fun o e => hk _ o (hS l1 (by simp)) e, hl2.at fun o e => hk _ o (hS l2 (by simp)) e, ?_⟩
  rcases hz with ⟨hz, a, b, hTO⟩ | ⟨T, f, oT, hz, hT, r1, r2, r3, r4⟩
  · exact .inl ⟨hk _ _ (hS z (by simp)) hz, a, b, hk _ _ (hS TO (by simp)) hTO⟩
  · exact .inr ⟨T, f, oT, hk _ _ (hS z (by simp)) hz, hk _ _ r4 hT, r1, r2, r3, r4⟩
end LiZ
namespace DL
open PySem PySem.Spec PyProof.Rows L2
end DL
set_option Elab.async false
set_option linter.all false
set_option maxRecDepth 100000
set_option maxHeartbeats 4000000
/-! Reasoning about the combinators: what they give, with what follows. -/
namespace DL
open PySem PySem.Spec PyProof.Rows L2
def Ev {α : Type} (f : M α) (ρ : Env) (P : α → Env → Prop) : Prop := ∃ a ρ', f ρ = some (a, ρ') ∧ P a ρ'
def EvS (f : MS) (ρ : Env) (N : Env → Prop) (R : O → Env → Prop) (B C : Env → Prop) : Prop := ∃ out, f ρ = some out ∧ (match out with
  | .nx ρ1 => N ρ1
  | .rt o ρ1 => R o ρ1
  | .bk ρ1 => B ρ1
  | .ct ρ1 => C ρ1)
/-- a def's result -/
def Ex (f : List O → Option (O × List O)) (as : List O) (P : O → List O → Prop) : Prop := ∃ r outs, f as = some (r, outs) ∧ P r outs
theorem Ev.mono {α : Type} {f : M α} {ρ : Env} {P P' : α → Env → Prop} (h : Ev f ρ P) (k : ∀ a ρ, P a ρ → P' a ρ) : Ev f ρ P' := let ⟨a, r, e, p⟩ := h; ⟨a, r, e, k a r p⟩
theorem Ex.mono {f : List O → Option (O × List O)} {as : List O} {P P' : O → List O → Prop} (h : Ex f as P) (k : ∀ a ρ, P a ρ → P' a ρ) : Ex f as P' := let ⟨a, r, e, p⟩ := h; ⟨a, r, e, k a r p⟩
theorem EvS.mono {f : MS} {ρ : Env} {N N' : Env → Prop} {R R' : O → Env → Prop} {B B' C C' : Env → Prop} (h : EvS f ρ N R B C) (k1 : ∀ ρ, N ρ → N' ρ) (k2 : ∀ o ρ, R o ρ → R' o ρ) (k3 : ∀ ρ, B ρ → B' ρ) (k4 : ∀ ρ, C ρ → C' ρ) : EvS f ρ N' R' B' C' := by
  obtain ⟨out, e, q⟩ := h
  refine ⟨out, e, ?_⟩
  cases out with
  | nx r => exact k1 r q
  | rt o r => exact k2 o r q
  | bk r => exact k3 r q
  | ct r => exact k4 r q
section
variable {ρ : Env} {α β : Type}
theorem Ev_bnd {f : M α} {k : α → M β} {P : β → Env → Prop} (h : Ev f ρ fun a ρ1 => Ev (k a) ρ1 P) : Ev (bnd f k) ρ P := by
  obtain ⟨a, ρ1, e, b, ρ2, e2, p⟩ := h
  exact ⟨b, ρ2, bnd_some.mpr ⟨a, ρ1, e, e2⟩, p⟩
theorem Ev_ret {a : α} {P : α → Env → Prop} (h : P a ρ) : Ev (ret a) ρ P := ⟨a, ρ, rfl, h⟩
theorem Ev_opt {o : Option α} {P : α → Env → Prop} (h : ∃ a, o = some a ∧ P a ρ) : Ev (opt o) ρ P := let ⟨a, e, p⟩ := h; ⟨a, ρ, opt_some.mpr ⟨e, rfl⟩, p⟩
theorem Ev_var {i : Nat} {d : D} {P : D → Env → Prop} (h : ρ[i]? = some (some (.pur d))) (k : P d ρ) : Ev (dVar i) ρ P := ⟨d, ρ, by unfold dVar; rw [h], k⟩
theorem Ev_C {d : D} {P : D → Env → Prop} (k : P d ρ) : Ev (dC d) ρ P := ⟨d, ρ, rfl, k⟩
theorem Ev_move {i : Nat} {o : O} {P : O → Env → Prop} (h : ρ[i]? = some (some o)) (k : P o (ρ.set i none)) : Ev (eMove i) ρ P := ⟨o, _, by unfold eMove; rw [h], k⟩
theorem Ev_fz {f : M O} {P : D → Env → Prop} (h : Ev f ρ fun o ρ1 => P o.fz ρ1) : Ev (fzM f) ρ P := Ev_bnd (h.mono fun _ _ p => Ev_ret p)
theorem Ev_pur {f : M D} {P : O → Env → Prop} (h : Ev f ρ fun o ρ1 => P (.pur o) ρ1) : Ev (purM f) ρ P := Ev_bnd (h.mono fun _ _ p => Ev_ret p)
theorem Ev_op2 {op : D → D → Option D} {fa fb : M D} {P : D → Env → Prop} (h : Ev fa ρ fun x ρ1 => Ev fb ρ1 fun y ρ2 => ∃ d, op x y = some d ∧ P d ρ2) : Ev (dOp2 op fa fb) ρ P := Ev_bnd (h.mono fun _ _ h => Ev_bnd (h.mono fun _ _ h => Ev_opt h))
theorem Ev_top2 {op : D → D → Option D} {fa fb : M D} {P : Bool → Env → Prop} (h : Ev fa ρ fun x ρ1 => Ev fb ρ1 fun y ρ2 => ∃ b, op x y = some (.bl b) ∧ P b ρ2) : Ev (tOp2 op fa fb) ρ P := Ev_bnd (h.mono fun _ _ h => Ev_bnd (h.mono fun _ _ ⟨b, e, p⟩ => Ev_opt ⟨b, by rw [e]; rfl, p⟩))
theorem Ev_op1 {op : D → Option D} {f : M D} {P : D → Env → Prop} (h : Ev f ρ fun x ρ1 => ∃ d, op x = some d ∧ P d ρ1) : Ev (dOp1 op f) ρ P := Ev_bnd (h.mono fun _ _ h => Ev_opt h)
theorem Ev_val {f : M D} {P : Bool → Env → Prop} (h : Ev f ρ fun x ρ1 => ∃ b, x = .bl b ∧ P b ρ1) : Ev (tValM f) ρ P := Ev_bnd (h.mono fun _ _ ⟨b, e, p⟩ => Ev_opt ⟨b, by rw [e]; rfl, p⟩)
theorem Ev_tand {a b : M Bool} {P : Bool → Env → Prop} (h : Ev a ρ fun x ρ1 => if x = true then Ev b ρ1 P else P false ρ1) : Ev (tAndM a b) ρ P := Ev_bnd (h.mono fun x _ h => by cases x; exact Ev_ret h; exact h)
theorem Ev_tor {a b : M Bool} {P : Bool → Env → Prop} (h : Ev a ρ fun x ρ1 => if x = true then P true ρ1 else Ev b ρ1 P) : Ev (tOrM a b) ρ P := Ev_bnd (h.mono fun x _ h => by cases x; exact h; exact Ev_ret h)
theorem Ev_tnot {a : M Bool} {P : Bool → Env → Prop} (h : Ev a ρ fun x ρ1 => P (!x) ρ1) : Ev (tNotM a) ρ P := Ev_bnd (h.mono fun _ _ h => Ev_ret h)
theorem Ev_and {a b : M D} {P : D → Env → Prop} (h : Ev a ρ fun x ρ1 => ∃ c, truD x = some c ∧ if c = true then Ev b ρ1 P else P x ρ1) : Ev (dAnd a b) ρ P := Ev_bnd (h.mono fun x _ ⟨c, e, h⟩ => Ev_bnd (Ev_opt ⟨c, e, by cases c; exact Ev_ret h; exact h⟩))
theorem Ev_or {a b : M D} {P : D → Env → Prop} (h : Ev a ρ fun x ρ1 => ∃ c, truD x = some c ∧ if c = true then P x ρ1 else Ev b ρ1 P) : Ev (dOr a b) ρ P := Ev_bnd (h.mono fun x _ ⟨c, e, h⟩ => Ev_bnd (Ev_opt ⟨c, e, by cases c; exact h; exact Ev_ret h⟩))
theorem Ev_not {a : M D} {P : D → Env → Prop} (h : Ev a ρ fun x ρ1 => ∃ c, x = .bl c ∧ P (.bl (!c)) ρ1) : Ev (dNot a) ρ P := Ev_bnd (h.mono fun x _ ⟨c, e, h⟩ => Ev_bnd (Ev_opt ⟨c, by rw [e]; rfl, Ev_ret h⟩))
theorem Ev_if {c : M Bool} {a b : M D} {P : D → Env → Prop} (h : Ev c ρ fun x ρ1 => if x = true then Ev a ρ1 P else Ev b ρ1 P) : Ev (dIf c a b) ρ P := Ev_bnd (h.mono fun x _ h => by cases x <;> exact h)
theorem Ev_anil {P : List D → Env → Prop} (h : P [] ρ) : Ev aNil ρ P := Ev_ret h
theorem Ev_acons {f : M D} {r : M (List D)} {P : List D → Env → Prop} (h : Ev f ρ fun x ρ1 => Ev r ρ1 fun xs ρ2 => P (x :: xs) ρ2) : Ev (aCons f r) ρ P := Ev_bnd (h.mono fun _ _ h => Ev_bnd (h.mono fun _ _ h => Ev_ret h))
theorem Ev_eanil {P : List O → Env → Prop} (h : P [] ρ) : Ev eaNil ρ P := Ev_ret h
theorem Ev_eacons {f : M O} {r : M (List O)} {P : List O → Env → Prop} (h : Ev f ρ fun x ρ1 => Ev r ρ1 fun xs ρ2 => P (x :: xs) ρ2) : Ev (eaCons f r) ρ P := Ev_bnd (h.mono fun _ _ h => Ev_bnd (h.mono fun _ _ h => Ev_ret h))
theorem Ev_tup {f : M (List D)} {P : D → Env → Prop} (h : Ev f ρ fun x ρ1 => x.length ≤ 1000 ∧ P (.tup x) ρ1) : Ev (dTup f) ρ P := Ev_bnd (h.mono fun _ _ h => Ev_opt ⟨_, if_pos (by rw [sizeLine_eq]; omega), h.2⟩)
theorem Ev_lst {f : M (List D)} {P : D → Env → Prop} (h : Ev f ρ fun x ρ1 => x.length ≤ 1000 ∧ P (.lst x) ρ1) : Ev (dLst f) ρ P := Ev_bnd (h.mono fun _ _ h => Ev_opt ⟨_, if_pos (by rw [sizeLine_eq]; omega), h.2⟩)
theorem Ev_elst {f : M (List O)} {P : O → Env → Prop} (h : Ev f ρ fun x ρ1 => x.length ≤ 1000 ∧ P (.lst x) ρ1) : Ev (eLst f) ρ P := Ev_bnd (h.mono fun _ _ h => Ev_opt ⟨_, if_pos (by rw [sizeLine_eq]; omega), h.2⟩)
theorem Ev_etup {f : M (List O)} {P : O → Env → Prop} (h : Ev f ρ fun x ρ1 => x.length ≤ 1000 ∧ P (.tup x) ρ1) : Ev (eTup f) ρ P := Ev_bnd (h.mono fun _ _ h => Ev_opt ⟨_, if_pos (by rw [sizeLine_eq]; omega), h.2⟩)
theorem Ev_call {op : List D → Option D} {f : M (List D)} {P : D → Env → Prop} (h : Ev f ρ fun x ρ1 => ∃ d, op x = some d ∧ P d ρ1) : Ev (dCall op f) ρ P := Ev_bnd (h.mono fun _ _ h => Ev_opt h)
theorem Ev_onone {P : Option Int → Env → Prop} (h : P none ρ) : Ev oNone ρ P := Ev_ret h
theorem Ev_osome {f : M D} {P : Option Int → Env → Prop} (h : Ev f ρ fun x ρ1 => ∃ i, x = .int i ∧ P (some i) ρ1) : Ev (oSome f) ρ P := Ev_bnd (h.mono fun _ _ ⟨i, e, h⟩ => by subst e; exact Ev_ret h)
theorem Ev_sl {f : M D} {lo hi : M (Option Int)} {P : D → Env → Prop} (h : Ev f ρ fun x ρ1 => Ev lo ρ1 fun l ρ2 => Ev hi ρ2 fun u ρ3 => ∃ d, slD x l u = some d ∧ P d ρ3) : Ev (dSl f lo hi) ρ P := Ev_bnd (h.mono fun _ _ h => Ev_bnd (h.mono fun _ _ h => Ev_bnd (h.mono fun _ _ h => Ev_opt h)))
theorem Ev_esl {f : M D} {lo hi : M (Option Int)} {P : O → Env → Prop} (h : Ev f ρ fun x ρ1 => Ev lo ρ1 fun l ρ2 => Ev hi ρ2 fun u ρ3 => ∃ ds, slL x l u = some ds ∧ P (plO ds) ρ3) : Ev (eSl f lo hi) ρ P := Ev_bnd (h.mono fun _ _ h => Ev_bnd (h.mono fun _ _ h => Ev_bnd (h.mono fun _ _ ⟨ds, e, p⟩ => Ev_bnd (Ev_opt ⟨ds, e, Ev_ret p⟩))))
theorem Ev_eop2 {op : D → D → Option (List D)} {fa fb : M D} {P : O → Env → Prop} (h : Ev fa ρ fun x ρ1 => Ev fb ρ1 fun y ρ2 => ∃ ds, op x y = some ds ∧ P (plO ds) ρ2) : Ev (eOp2 op fa fb) ρ P := Ev_bnd (h.mono fun _ _ h => Ev_bnd (h.mono fun _ _ ⟨ds, e, p⟩ => Ev_bnd (Ev_opt ⟨ds, e, Ev_ret p⟩)))
theorem Ev_eargs {op : List D → Option (List D)} {f : M (List D)} {P : O → Env → Prop} (h : Ev f ρ fun x ρ1 => ∃ ds, op x = some ds ∧ P (plO ds) ρ1) : Ev (eArgs op f) ρ P := Ev_bnd (h.mono fun _ _ ⟨ds, e, p⟩ => Ev_bnd (Ev_opt ⟨ds, e, Ev_ret p⟩))
theorem Ev_iseq {f : M D} {P : List D → Env → Prop} (h : Ev f ρ fun x ρ1 => ∃ ds, itemsD x = some ds ∧ P ds ρ1) : Ev (iSeqM f) ρ P := Ev_bnd (h.mono fun _ _ h => Ev_opt h)
theorem Ev_iargs {op : List D → Option (List D)} {f : M (List D)} {P : List D → Env → Prop} (h : Ev f ρ fun x ρ1 => ∃ ds, op x = some ds ∧ P ds ρ1) : Ev (iArgsM op f) ρ P := Ev_bnd (h.mono fun _ _ h => Ev_opt h)
theorem Ev_ecall {f : List O → Option (O × List O)} {ss : List (Option Nat)} {fs : M (List O)} {P : O → Env → Prop} (h : Ev fs ρ fun os ρ1 => Ex f os fun r outs => P r (putOuts ss outs ρ1)) : Ev (eCall f ss fs) ρ P := by
  refine Ev_bnd (h.mono fun os ρ1 ⟨r, outs, e, p⟩ => ⟨r, _, ?_, p⟩)
  simp only [e]
theorem Ev_ecomp {own : List Nat} {it : M (List D)} {tg : TF} {ct : M Bool} {el : M O} {P : O → Env → Prop} (h : Ev it ρ fun ds ρ1 => ∃ os ρ2, compGo own tg ct el ds (wipeE ρ1 own) [] = some (os, ρ2) ∧ P (.lst os) (keepE ρ1 own ρ2)) : Ev (eComp own it tg ct el) ρ P := by
  refine Ev_bnd (h.mono fun ds ρ1 ⟨os, ρ2, e, p⟩ => ⟨_, _, ?_, p⟩)
  simp only [e]
theorem Ev_late {i : Nat} {fs : M (List O)} {P : List O → Env → Prop} {o0 : O} (h0 : ρ[i]? = some (some o0)) (h : Ev fs ρ fun os ρ1 => ∃ o, ρ1[i]? = some (some o) ∧ P (o :: os) (ρ1.set i none)) : Ev (eaLate i fs) ρ P := by
  obtain ⟨os, ρ1, e, o, h2, p⟩ := h
  exact ⟨_, _, Ev_lateM h0 e h2, p⟩
theorem Ev_yes {P : Bool → Env → Prop} (h : P true ρ) : Ev tYesM ρ P := Ev_ret h
theorem Ev_chain {o1 o2 : D → D → Option D} {fa fb fc : M D} {P : D → Env → Prop} (h : Ev fa ρ fun x ρ1 => Ev fb ρ1 fun y ρ2 => ∃ c, o1 x y = some (.bl c) ∧ if c = true then Ev fc ρ2 fun z ρ3 => ∃ d, o2 y z = some d ∧ P d ρ3 else P (.bl false) ρ2) : Ev (dChain o1 o2 fa fb fc) ρ P :=
  Ev_bnd (h.mono fun _ _ h => Ev_bnd (h.mono fun _ _ ⟨c, e, h⟩ => Ev_bnd (Ev_opt ⟨c, by rw [e]; rfl, by cases c; exact Ev_ret h; exact Ev_bnd (Ev.mono h fun _ _ h => Ev_opt h)⟩)))
theorem Ev_tchain {o1 o2 : D → D → Option D} {fa fb fc : M D} {P : Bool → Env → Prop} (h : Ev fa ρ fun x ρ1 => Ev fb ρ1 fun y ρ2 => ∃ c, o1 x y = some (.bl c) ∧ if c = true then Ev fc ρ2 fun z ρ3 => ∃ b, o2 y z = some (.bl b) ∧ P b ρ3 else P false ρ2) : Ev (tChain o1 o2 fa fb fc) ρ P :=
  Ev_bnd (Ev_chain (h.mono fun _ _ h => h.mono fun _ _ ⟨c, e, h⟩ => ⟨c, e, by cases c; exact Ev_opt ⟨_, rfl, h⟩; exact Ev.mono h fun _ _ ⟨b, e, p⟩ => ⟨_, e, Ev_opt ⟨_, rfl, p⟩⟩⟩))
theorem Ev_bor {m : List Bool} {f : M O} {P : O → Env → Prop} (h : Ev f (frzE m ρ) fun o ρ1 => flatO o = true ∧ ∃ ρ2, mixE m ρ ρ1 = some ρ2 ∧ P o ρ2) : Ev (eBor m f) ρ P := by
  obtain ⟨o, ρ1, e, fl, ρ2, e2, p⟩ := h
  exact ⟨o, ρ2, by unfold eBor; rw [e]; simp only [fl, if_true, e2, Option.map_some], p⟩
theorem Ev_tbor {m : List Bool} {f : M Bool} {P : Bool → Env → Prop} (h : Ev f (frzE m ρ) fun o ρ1 => ∃ ρ2, mixE m ρ ρ1 = some ρ2 ∧ P o ρ2) : Ev (tBor m f) ρ P := by
  obtain ⟨o, ρ1, e, ρ2, e2, p⟩ := h
  exact ⟨o, ρ2, by unfold tBor; rw [e]; simp only [e2, Option.map_some], p⟩
theorem Ev_meth {i : Nat} {op : List O → List O → Option (O × List O)} {fs : M (List O)} {P : O → Env → Prop} {os0 : List O} (h0 : ρ[i]? = some (some (.lst os0)))
    (h : Ev fs ρ fun as ρ1 => ∃ os, ρ1[i]? = some (some (.lst os)) ∧ ∃ r os', op os as = some (r, os') ∧ P r (ρ1.set i (some (.lst os')))) : Ev (eMeth i op fs) ρ P := by
  obtain ⟨as, ρ1, e, os, e1, r, os', e2, p⟩ := h
  exact ⟨r, _, by unfold eMeth; rw [h0]; simp only [e, e1, e2], p⟩
variable {N : Env → Prop} {R : O → Env → Prop} {B C : Env → Prop}
theorem S_next (h : N ρ) : EvS sNext ρ N R B C := ⟨_, rfl, h⟩
theorem S_seq {f g : MS} (h : EvS f ρ (fun ρ1 => EvS g ρ1 N R B C) R B C) : EvS (sSeq f g) ρ N R B C := by
  obtain ⟨out, e, q⟩ := h
  unfold EvS sSeq
  rw [e]
  cases out with
  | nx r => exact q
  | rt o r => exact ⟨_, rfl, q⟩
  | bk r => exact ⟨_, rfl, q⟩
  | ct r => exact ⟨_, rfl, q⟩
theorem S_drop {f : M O} (h : Ev f ρ fun _ ρ1 => N ρ1) : EvS (sDrop f) ρ N R B C := by
  obtain ⟨o, ρ1, e, p⟩ := h
  exact ⟨.nx ρ1, by unfold sDrop; rw [e], p⟩
theorem S_ret {f : M O} (h : Ev f ρ R) : EvS (sRet f) ρ N R B C := by
  obtain ⟨o, ρ1, e, p⟩ := h
  exact ⟨.rt o ρ1, by unfold sRet; rw [e], p⟩
theorem S_set {i : Nat} {f : M O} (h : Ev f ρ fun o ρ1 => i < ρ1.length ∧ N (ρ1.set i (some o))) : EvS (sSet i f) ρ N R B C := by
  obtain ⟨o, ρ1, e, l, p⟩ := h
  exact ⟨.nx _, by unfold sSet; rw [e]; simp only [l, if_true], p⟩
theorem S_asg {t : TF} {f : M D} (h : Ev f ρ fun d ρ1 => ∃ ρ2, t d ρ1 = some ρ2 ∧ N ρ2) : EvS (sAsg t f) ρ N R B C := by
  obtain ⟨o, ρ1, e, ρ2, l, p⟩ := h
  exact ⟨.nx _, by unfold sAsg; rw [e]; simp only [l], p⟩
theorem S_if {c : M Bool} {f g : MS} (h : Ev c ρ fun b ρ1 => if b = true then EvS f ρ1 N R B C else EvS g ρ1 N R B C) : EvS (sIf c f g) ρ N R B C := by
  obtain ⟨b, ρ1, e, p⟩ := h
  cases b with
  | true => obtain ⟨out, e2, q⟩ := p; exact ⟨out, by unfold sIf; rw [e]; exact e2, q⟩
  | false => obtain ⟨out, e2, q⟩ := p; exact ⟨out, by unfold sIf; rw [e]; exact e2, q⟩
theorem S_setIx {i : Nat} {fk : M D} {fe : M O} (h : Ev fe ρ fun o ρ1 => ∃ os0, ρ1[i]? = some (some (.lst os0)) ∧ Ev fk ρ1 fun k ρ2 => ∃ kk os j, k = .int kk ∧ ρ2[i]? = some (some (.lst os)) ∧ ixN os.length kk = some j ∧ N (ρ2.set i (some (.lst (os.set j o))))) : EvS (sSetIx i fk fe) ρ N R B C := by
  obtain ⟨o, ρ1, e, os0, e0, k, ρ2, e1, kk, os, j, rfl, e2, e3, p⟩ := h
  exact ⟨.nx _, by unfold sSetIx; simp only [e, e0, e1, e2, e3], p⟩
theorem S_augIx {i : Nat} {fk : M D} {op : Int → Int → Int} {fe : M D} {os0 : List O} (h0 : ρ[i]? = some (some (.lst os0))) (h : Ev fk ρ fun k ρ1 => ∃ kk os a, k = .int kk ∧ ρ1[i]? = some (some (.lst os)) ∧ atI os kk = some (.pur (.int a)) ∧
    Ev fe ρ1 fun x ρ2 => ∃ b os2 j, x = .int b ∧ ρ2[i]? = some (some (.lst os2)) ∧ ixN os2.length kk = some j ∧ N (ρ2.set i (some (.lst (os2.set j (.pur (.int (op a b)))))))) : EvS (sAugIx i fk op fe) ρ N R B C := by
  obtain ⟨k, ρ1, e, kk, os, a, rfl, e0, e1, x, ρ2, e2, b, os2, j, rfl, e3, e4, p⟩ := h
  exact ⟨.nx _, by unfold sAugIx; simp only [h0, e, e0, e1, e2, e3, e4], p⟩
theorem S_aug {i : Nat} {op : Int → Int → Int} {fe : M D} {a : Int} (h0 : ρ[i]? = some (some (.pur (.int a)))) (h : Ev fe ρ fun x ρ1 => ∃ b, x = .int b ∧ i < ρ1.length ∧ N (ρ1.set i (some (.pur (.int (op a b)))))) : EvS (sAug i op fe) ρ N R B C := by
  obtain ⟨x, ρ1, e, b, rfl, l, p⟩ := h
  exact ⟨.nx _, by unfold sAug; simp only [h0, e, l, if_true], p⟩
theorem S_par2 {i j : Nat} {fs : M (List O)} (h : Ev fs ρ fun os ρ1 => ∃ o1 o2, os = [o1, o2] ∧ (i < ρ1.length ∧ j < ρ1.length) ∧ N ((ρ1.set i (some o1)).set j (some o2))) : EvS (sPar2 i j fs) ρ N R B C := by
  obtain ⟨os, ρ1, e, o1, o2, rfl, l, p⟩ := h
  exact ⟨.nx _, by unfold sPar2; simp only [e, l, and_self, if_true], p⟩
theorem S_par3 {i j k : Nat} {fs : M (List O)} (h : Ev fs ρ fun os ρ1 => ∃ o1 o2 o3, os = [o1, o2, o3] ∧ (i < ρ1.length ∧ j < ρ1.length ∧ k < ρ1.length) ∧ N (((ρ1.set i (some o1)).set j (some o2)).set k (some o3))) : EvS (sPar3 i j k fs) ρ N R B C := by
  obtain ⟨os, ρ1, e, o1, o2, o3, rfl, l, p⟩ := h
  exact ⟨.nx _, by unfold sPar3; simp only [e, l, and_self, if_true], p⟩
/-- a for: the turns told by an invariant; a turn may hand back -/
theorem for_inv {t : TF} {b : MS} {ds : List D} (I : Nat → Env → Prop) (h0 : I 0 ρ) (hs : ∀ i d ρ, ds[i]? = some d → I i ρ → ∃ ρ1, t d ρ = some ρ1 ∧ EvS b ρ1 (I (i + 1)) R N (I (i + 1))) (hd : ∀ ρ, I ds.length ρ → N ρ) :
    ∃ out, forGo t b ds ρ = some out ∧ (match out with
      | .nx ρ1 => N ρ1
      | .rt o ρ1 => R o ρ1
      | .bk ρ1 => False
      | .ct ρ1 => False) := by
  have main : ∀ (es : List D) (k : Nat) (ρ : Env), ds.drop k = es → k ≤ ds.length → I k ρ → ∃ out, forGo t b es ρ = some out ∧ (match out with
      | .nx ρ1 => N ρ1
      | .rt o ρ1 => R o ρ1
      | .bk ρ1 => False
      | .ct ρ1 => False) := by
    intro es
    induction es with
    | nil =>
      intro k ρ hk hl hi
      have : k = ds.length := by have := List.drop_eq_nil_iff.mp hk; omega
      subst this
      exact ⟨_, rfl, hd ρ hi⟩
    | cons d es ih =>
      intro k ρ hk hl hi
      have hlt : k < ds.length := by
        rcases Nat.lt_or_ge k ds.length with h | h
        · exact h
        · rw [List.drop_eq_nil_of_le h] at hk; cases hk
      rw [List.drop_eq_getElem_cons hlt] at hk
      injection hk with hk1 hk2
      obtain ⟨ρ1, e1, out, e2, q⟩ := hs k d ρ (by rw [← hk1]; simp [hlt]) hi
      unfold forGo
      rw [e1]
      simp only [e2]
      cases out with
      | nx r => exact ih (k + 1) r hk2 (by omega) q
      | ct r => exact ih (k + 1) r hk2 (by omega) q
      | bk r => exact ⟨_, rfl, q⟩
      | rt o r => exact ⟨_, rfl, q⟩
  exact main ds 0 ρ (by simp) (Nat.zero_le _) h0
theorem S_for {it : M (List D)} {t : TF} {b : MS} (h : Ev it ρ fun ds ρ1 => ∃ I : Nat → Env → Prop, I 0 ρ1 ∧ (∀ i d ρ, ds[i]? = some d → I i ρ → ∃ ρ1, t d ρ = some ρ1 ∧ EvS b ρ1 (I (i + 1)) R N (I (i + 1))) ∧ ∀ ρ, I ds.length ρ → N ρ) : EvS (sFor it t b) ρ N R B C := by
  obtain ⟨ds, ρ1, e, I, h0, hs, hd⟩ := h
  obtain ⟨out, e2, q⟩ := for_inv I h0 hs hd
  refine ⟨out, by unfold sFor; rw [e]; exact e2, ?_⟩
  cases out with
  | nx r => exact q
  | rt o r => exact q
  | bk r => exact q.elim
  | ct r => exact q.elim
end
/-- a def, by its body -/
theorem Ex_run {nl : Nat} {ios : List Nat} {b : MS} {as : List O} {P : O → List O → Prop} (h : EvS b (as.map some ++ List.replicate (nl - as.length) none) (fun ρ => ∃ outs, takeS ios ρ = some outs ∧ P (.pur .non) outs) (fun o ρ => ∃ outs, takeS ios ρ = some outs ∧ P o outs) (fun _ => False) (fun _ => False)) : Ex (runB nl ios b) as P := by
  obtain ⟨out, e, q⟩ := h
  unfold Ex runB
  rw [e]
  cases out with
  | nx r => obtain ⟨outs, e2, p⟩ := q; exact ⟨_, outs, by simp only [e2, Option.map_some], p⟩
  | rt o r => obtain ⟨outs, e2, p⟩ := q; exact ⟨_, outs, by simp only [e2, Option.map_some], p⟩
  | bk r => exact q.elim
  | ct r => exact q.elim
/-! ### comprehensions -/
/-- every item gives an element; the slots are back each time -/
theorem comp_map {own : List Nat} {tg : TF} {ct : M Bool} {el : M O} {f : D → O} {ρ : Env} : ∀ (ds : List D) (acc : List O), (∀ d ∈ ds, ∃ ρ1 ρ2 ρ3, tg d ρ = some ρ1 ∧ ct ρ1 = some (true, ρ2) ∧ el ρ2 = some (f d, ρ3) ∧ wipeE ρ3 own = ρ) → acc.length + ds.length ≤ 16777216 →
    compGo own tg ct el ds ρ acc = some (acc ++ ds.map f, ρ)
  | [], acc, _, _ => by simp [compGo]
  | d :: ds, acc, h, hl => by
    obtain ⟨ρ1, ρ2, ρ3, e1, e2, e3, e4⟩ := h d (by simp)
    unfold compGo
    simp only [List.length_cons] at hl
    rw [e1]
    simp only [e2, e3]
    rw [if_pos (by rw [sizeLine_eq]; omega), e4, comp_map ds (acc ++ [f d]) (fun x hx => h x (by simp [hx])) (by simp; omega)]
    simp
/-- the slots change from turn to turn (draws) -/
theorem comp_inv {own : List Nat} {tg : TF} {ct : M Bool} {el : M O} (I : Nat → List O → Env → Prop) {ds : List D} {ρ : Env} (hl : ds.length ≤ 16777216) (h0 : I 0 [] ρ)
    (hs : ∀ i d acc ρ, ds[i]? = some d → acc.length ≤ i → I i acc ρ → ∃ ρ1, tg d ρ = some ρ1 ∧ Ev ct ρ1 fun b ρ2 => if b = true then Ev el ρ2 fun o ρ3 => I (i + 1) (acc ++ [o]) (wipeE ρ3 own) else I (i + 1) acc (wipeE ρ2 own)) :
    ∃ os ρ', compGo own tg ct el ds ρ [] = some (os, ρ') ∧ I ds.length os ρ' := by
  have main : ∀ (es : List D) (k : Nat) (acc : List O) (ρ : Env), ds.drop k = es → k ≤ ds.length → acc.length ≤ k → I k acc ρ → ∃ os ρ', compGo own tg ct el es ρ acc = some (os, ρ') ∧ I ds.length os ρ' := by
    intro es
    induction es with
    | nil =>
      intro k acc ρ hk hkl ha hi
      have : k = ds.length := by have := List.drop_eq_nil_iff.mp hk; omega
      subst this
      exact ⟨acc, ρ, rfl, hi⟩
    | cons d es ih =>
      intro k acc ρ hk hkl ha hi
      have hlt : k < ds.length := by
        rcases Nat.lt_or_ge k ds.length with h | h
        · exact h
        · rw [List.drop_eq_nil_of_le h] at hk; cases hk
      rw [List.drop_eq_getElem_cons hlt] at hk
      injection hk with hk1 hk2
      obtain ⟨ρ1, e1, b, ρ2, e2, q⟩ := hs k d acc ρ (by rw [← hk1]; simp [hlt]) ha hi
      unfold compGo
      rw [e1]
      simp only [e2]
      cases b with
      | false => exact ih (k + 1) acc _ hk2 (by omega) (by omega) q
      | true =>
        obtain ⟨o, ρ3, e3, q⟩ := q
        simp only [e3]
        rw [if_pos (by rw [sizeLine_eq]; omega)]
        exact ih (k + 1) (acc ++ [o]) _ hk2 (by omega) (by simp; omega) q
  exact main ds 0 [] ρ (by simp) (Nat.zero_le _) (by simp) h0
/-! ### operators on known things -/
theorem add_ii (a b : Int) : addD (.int a) (.int b) = some (.int (a + b)) := rfl
theorem mul_ii {a b : Int} (h : (-(2 ^ 64) < a ∧ a < 2 ^ 64) ∨ (-(2 ^ 64) < b ∧ b < 2 ^ 64)) : mulD (.int a) (.int b) = some (.int (a * b)) := by
  have : mulOk a b = true := by unfold mulOk; rw [decide_eq_true_eq]; rcases h with h | h; exact .inl h; exact .inr (.inl h)
  simp only [mulD, this, if_true]
theorem mod_ii {a b : Int} (h : 0 < b) : modD (.int a) (.int b) = some (.int (a % b)) := by
  have : modOk a b = true := by unfold modOk; rw [decide_eq_true_eq]; exact h
  simp only [modD, intOp, this, if_true]
theorem log2_lt {b : Int} (h : b < 10 ^ 60) (h0 : 0 < b) : b.natAbs.log2 < 9000 := by
  have h1 : b.natAbs < 10 ^ 60 := by omega
  have h2 : b.natAbs < 2 ^ 200 := Nat.lt_of_lt_of_le h1 (by decide)
  exact Nat.lt_of_lt_of_le ((Nat.log2_lt (by omega)).mpr h2) (by decide)
theorem div_ii {a b : Int} (h : 0 < b) (h2 : b < 10 ^ 60) : divD (.int a) (.int b) = some (.int (a / b)) := by
  have : divOk a b = true := by unfold divOk; rw [decide_eq_true_eq]; exact ⟨h, log2_lt h2 h⟩
  simp only [divD, intOp, this, if_true]
theorem at_nat {α : Type} {xs : List α} {i : Nat} {x : α} (h : xs[i]? = some x) : atI xs (i : Int) = some x := L2.atI_nat h
theorem at_ok {α : Type} {xs : List α} {i : Int} (h0 : 0 ≤ i) (h : i.toNat < xs.length) : atI xs i = some xs[i.toNat] := by
  have := L2.atI_nat (xs := xs) (j := i.toNat) (v := xs[i.toNat]) (by simp [h])
  rwa [Int.toNat_of_nonneg h0] at this
end DL
set_option Elab.async false
set_option linter.all false
set_option maxRecDepth 100000
set_option maxHeartbeats 4000000
/-! Data that compares and shows: shapes, depth, and a bound for the shown text. -/
namespace DL
open PySem PySem.Spec PyProof.Rows L2 PySem.SeqAt PySem.PyData
mutual
def okD : D → Bool
  | .non => true
  | .bl _ => true
  | .int i => decide (i.natAbs < 10 ^ 250)
  | .str x => x.cps.all (· < 0x110000)
  | .tup ds => okDs ds
  | .lst ds => okDs ds
  | _ => false
def okDs : List D → Bool
  | [] => true
  | d :: ds => okD d && okDs ds
end
mutual
def depD : D → Nat
  | .tup ds => depDs ds + 1
  | .lst ds => depDs ds + 1
  | _ => 0
def depDs : List D → Nat
  | [] => 0
  | d :: ds => max (depD d) (depDs ds)
end
mutual
def wtD : D → Nat
  | .str x => 10 * x.length + 2
  | .tup ds => wtDs ds + 3
  | .lst ds => wtDs ds + 3
  | _ => 260
def wtDs : List D → Nat
  | [] => 0
  | d :: ds => wtD d + 2 + wtDs ds
end
theorem int_shown {i : Int} (h : i.natAbs < 10 ^ 250) : i.natAbs.log2 < 1920 ∧ ((toString i : String) : Str).length ≤ 260 := by
  have h1 : i.natAbs.log2 < 1920 := by
    by_cases hz : i.natAbs = 0
    · rw [hz]; decide
    · exact (Nat.log2_lt hz).mpr (Nat.lt_trans h (by decide +kernel))
  refine ⟨h1, ?_⟩
  have h2 := int_text_length_le10 (a := i) (k := 250) (by omega) h
  rw [PySem.ofString_length]
  omega
mutual
theorem shp_ok : ∀ d : D, okD d = true → ∃ p, pyOf d = some p ∧ p.canLay0 = true ∧ p.depth = depD d ∧ p.showable = true ∧ p.shown.length ≤ wtD d
  | .non, _ => ⟨_, rfl, rfl, rfl, rfl, by decide⟩
  | .bl b, _ => ⟨_, rfl, rfl, rfl, rfl, by cases b <;> decide⟩
  | .int i, h => by
    have hi := int_shown (i := i) (by simpa only [okD, decide_eq_true_eq] using h)
    exact ⟨_, rfl, rfl, rfl, by simp only [PyData.showable, decide_eq_true_eq]; exact hi.1, by simp only [PyData.shown, wtD]; exact hi.2⟩
  | .str x, h => by
    have hx : ∀ c ∈ x.cps.toList, c < 0x110000 := by
      simp only [okD, Array.all_eq_true, decide_eq_true_eq] at h
      intro c hc
      obtain ⟨i, hi, rfl⟩ := Array.getElem_of_mem (Array.mem_toList_iff.mp hc)
      exact h i hi
    exact ⟨_, rfl, by simpa [PyData.canLay0, PyData.strOk, okD] using h, rfl, rfl, by simp only [PyData.shown, wtD]; exact StrLaws.reprText_len x fun c hc => Nat.lt_of_lt_of_le (hx c hc) (by decide)⟩
  | .tup ds, h => by
    obtain ⟨ps, e, c, dp, sw, ln⟩ := shps_ok ds (by simpa only [okD] using h)
    refine ⟨.tuple ps, by simp only [pyOf, e, Option.map_some], by simpa only [PyData.canLay0] using c, by simp only [PyData.depth, depD, dp], by simpa only [PyData.showable] using sw, ?_⟩
    have := tupleText_len_le (PyData.shownAll ps)
    simp only [PyData.shown, wtD]
    have := PyData.shownAll_length ps
    omega
  | .lst ds, h => by
    obtain ⟨ps, e, c, dp, sw, ln⟩ := shps_ok ds (by simpa only [okD] using h)
    refine ⟨.list ps, by simp only [pyOf, e, Option.map_some], by simpa only [PyData.canLay0] using c, by simp only [PyData.depth, depD, dp], by simpa only [PyData.showable] using sw, ?_⟩
    have := listText_len_le (PyData.shownAll ps)
    simp only [PyData.shown, wtD]
    have := PyData.shownAll_length ps
    omega
  | .dct _, h => by simp [okD] at h
  | .ins _ _, h => by simp [okD] at h
  | .ty _, h => by simp [okD] at h
  | .scr _, h => by simp [okD] at h
  | .exv _ _ _, h => by simp [okD] at h
theorem shps_ok : ∀ ds : List D, okDs ds = true → ∃ ps, pyOfs ds = some ps ∧ PyData.canLayAll0 ps = true ∧ PyData.depthAll ps = depDs ds ∧ PyData.showableAll ps = true ∧ ((PyData.shownAll ps).map (·.length)).sum + 2 * ps.length ≤ wtDs ds
  | [], _ => ⟨[], rfl, rfl, rfl, rfl, by simp [PyData.shownAll, wtDs]⟩
  | d :: ds, h => by
    simp only [okDs, Bool.and_eq_true] at h
    obtain ⟨p, e1, c1, d1, s1, l1⟩ := shp_ok d h.1
    obtain ⟨ps, e2, c2, d2, s2, l2⟩ := shps_ok ds h.2
    refine ⟨p :: ps, by simp only [pyOfs, e1, e2, Option.bind_some, Option.map_some], by simp only [PyData.canLayAll0, c1, c2, Bool.and_self], by simp only [PyData.depthAll, depDs, d1, d2], by simp only [PyData.showableAll, s1, s2, Bool.and_self], ?_⟩
    simp only [PyData.shownAll, wtDs, List.map_cons, List.sum_cons, List.length_cons]
    omega
end
mutual
theorem eqv_me : ∀ d : PyData, d.canLay0 = true → PyData.eqv d d = true
  | .none, _ => rfl
  | .bool b, _ => by simp [PyData.eqv]
  | .int i, _ => by simp [PyData.eqv]
  | .str x, _ => by simp [PyData.eqv]
  | .list xs, h => by rw [PyData.eqv]; exact eqv_mes xs (by simpa only [PyData.canLay0] using h)
  | .tuple xs, h => by rw [PyData.eqv]; exact eqv_mes xs (by simpa only [PyData.canLay0] using h)
  | .dict _, h => by simp [PyData.canLay0] at h
theorem eqv_mes : ∀ xs : List PyData, PyData.canLayAll0 xs = true → PyData.eqvAll xs xs = true
  | [], _ => rfl
  | x :: xs, h => by
    simp only [PyData.canLayAll0, Bool.and_eq_true] at h
    rw [PyData.eqvAll, eqv_me x h.1, eqv_mes xs h.2]; rfl
end
/-- compares and shows: within depth k, the text within n -/
def Nice (k n : Nat) (d : D) : Prop := okD d = true ∧ depD d ≤ k ∧ wtD d ≤ n
theorem Nice.mono {k k' n n' : Nat} {d : D} (h : Nice k n d) (hk : k ≤ k') (hn : n ≤ n') : Nice k' n' d := ⟨h.1, Nat.le_trans h.2.1 hk, Nat.le_trans h.2.2 hn⟩
theorem Nice.int {i : Int} (h : i.natAbs < 10 ^ 250) : Nice 0 260 (.int i) := ⟨by simpa only [okD, decide_eq_true_eq] using h, by simp [depD], by simp [wtD]⟩
theorem Nice.bl {b : Bool} : Nice 0 260 (.bl b) := ⟨rfl, by simp [depD], by simp [wtD]⟩
theorem Nice.non : Nice 0 260 .non := ⟨rfl, by simp [depD], by simp [wtD]⟩
theorem nice_all {k n : Nat} : ∀ {ds : List D}, (∀ d ∈ ds, Nice k n d) → okDs ds = true ∧ depDs ds ≤ k ∧ wtDs ds ≤ ds.length * (n + 2)
  | [], _ => ⟨rfl, by simp [depDs], by simp [wtDs]⟩
  | d :: ds, h => by
    obtain ⟨a, b, c⟩ := h d (by simp)
    obtain ⟨a2, b2, c2⟩ := nice_all fun x hx => h x (List.mem_cons_of_mem _ hx)
    refine ⟨by simp only [okDs, a, a2, Bool.and_self], by simp only [depDs]; omega, ?_⟩
    simp only [wtDs, List.length_cons, Nat.add_mul, Nat.one_mul]
    omega
theorem Nice.lst {k n : Nat} {ds : List D} (h : ∀ d ∈ ds, Nice k n d) : Nice (k + 1) (ds.length * (n + 2) + 3) (.lst ds) := by
  obtain ⟨a, b, c⟩ := nice_all h
  exact ⟨by simpa only [okD] using a, by simp only [depD]; omega, by simp only [wtD]; omega⟩
theorem Nice.tup {k n : Nat} {ds : List D} (h : ∀ d ∈ ds, Nice k n d) : Nice (k + 1) (ds.length * (n + 2) + 3) (.tup ds) := by
  obtain ⟨a, b, c⟩ := nice_all h
  exact ⟨by simpa only [okD] using a, by simp only [depD]; omega, by simp only [wtD]; omega⟩
theorem Nice.shp {n : Nat} {d : D} (h : Nice 64 n d) : ∃ p, shp d = some p ∧ PyData.eqv p p = true ∧ p.showable = true ∧ p.shown.length ≤ n := by
  obtain ⟨p, e, c, dp, sw, ln⟩ := shp_ok d h.1
  have hs : SeqAt.shaped p = true := by
    unfold SeqAt.shaped
    rw [c, dp]
    have := h.2.1
    simp [this]
  exact ⟨p, by unfold DL.shp; rw [e, Option.bind_some, if_pos hs], eqv_me p c, sw, Nat.le_trans ln h.2.2⟩
theorem eqB_self {n : Nat} {d : D} (h : Nice 64 n d) : eqB d d = some true := by
  obtain ⟨p, e, q, _, _⟩ := h.shp
  unfold eqB
  split
  · simp
  · rw [e]; simp [q]
theorem eq_self {n : Nat} {d : D} (h : Nice 64 n d) : eqD d d = some (.bl true) := by unfold eqD; rw [eqB_self h]; rfl
theorem repr_nice {n : Nat} {d : D} (h : Nice 64 n d) (hn : n ≤ 16777216) : ∃ s, reprD [d] = some (.str s) := by
  obtain ⟨p, e, _, sw, ln⟩ := h.shp
  refine ⟨p.shown, ?_⟩
  show ((DL.shp d).bind fun p => (reprP p).map D.str) = _
  rw [e, Option.bind_some]
  unfold reprP
  rw [if_pos ⟨sw, by rw [sizeLine_eq]; omega⟩]
  rfl
theorem eq_str (s : Str) : eqD (.str s) (.str s) = some (.bl true) := by unfold eqD eqB; simp
theorem ne_str (s : Str) : neD (.str s) (.str s) = some (.bl false) := by unfold neD eqB; simp
end DL
set_option Elab.async false
set_option linter.all false
set_option maxRecDepth 100000
set_option maxHeartbeats 4000000
/-! The helpers that the laws share. -/
namespace DL.Sh
open PySem PySem.Spec PyProof.Rows L2
theorem eq_dec (a b : Int) : eqD (.int a) (.int b) = some (.bl (decide (a = b))) := rfl
theorem ne_dec (a b : Int) : neD (.int a) (.int b) = some (.bl (!decide (a = b))) := rfl
theorem ite_dec {p : Prop} [Decidable p] {A B : Prop} (h1 : p → A) (h2 : ¬p → B) : if decide p = true then A else B := by
  by_cases h : p
  · rw [if_pos (by simpa using h)]; exact h1 h
  · rw [if_neg (by simpa using h)]; exact h2 h
theorem ite_ndec {p : Prop} [Decidable p] {A B : Prop} (h1 : ¬p → A) (h2 : p → B) : if (!decide p) = true then A else B := by
  by_cases h : p
  · rw [if_neg (by simpa using h)]; exact h2 h
  · rw [if_pos (by simpa using h)]; exact h1 h
theorem S_cut {f g : MS} {ρ : Env} {N : Env → Prop} {R : O → Env → Prop} {B C : Env → Prop} (Mid : Env → Prop) (h1 : EvS f ρ Mid R B C) (h2 : ∀ ρ1, Mid ρ1 → EvS g ρ1 N R B C) : EvS (sSeq f g) ρ N R B C := S_seq (h1.mono h2 (fun _ _ h => h) (fun _ h => h) fun _ h => h)
theorem mix_nil : ∀ {ρ ρ1 : Env}, ρ.length = ρ1.length → mixE [] ρ ρ1 = some ρ
  | [], [], _ => rfl
  | s :: ρ, s1 :: ρ1, h => by simp only [mixE, mix_nil (Nat.succ.inj h), Option.map_some]
theorem lt_dec (a b : Int) : ltD (.int a) (.int b) = some (.bl (decide (a < b))) := rfl
theorem le_dec (a b : Int) : leD (.int a) (.int b) = some (.bl (decide (a ≤ b))) := rfl
theorem gt_dec (a b : Int) : gtD (.int a) (.int b) = some (.bl (decide (b < a))) := rfl
theorem ge_dec (a b : Int) : geD (.int a) (.int b) = some (.bl (decide (b ≤ a))) := rfl
theorem sub_ii (a b : Int) : subD (.int a) (.int b) = some (.int (a - b)) := rfl
theorem neg_i (a : Int) : negD (.int a) = some (.int (-a)) := rfl
theorem fzs_ints (cs : List Int) : fzs (cs.map fun c => O.pur (.int c)) = cs.map D.int := by
  induction cs with
  | nil => rfl
  | cons c cs ih => simp only [List.map_cons, fzs, O.fz, ih]
theorem fzs_purs (ds : List D) : fzs (ds.map O.pur) = ds := by
  induction ds with
  | nil => rfl
  | cons c cs ih => simp only [List.map_cons, fzs, O.fz, ih]
theorem Ev_comp_inv {ρ : Env} {own : List Nat} {it : M (List D)} {tg : TF} {ct : M Bool} {el : M O} {P : O → Env → Prop} (h : Ev it ρ fun ds ρ1 => ds.length ≤ 16777216 ∧ ∃ I : Nat → List O → Env → Prop, I 0 [] (wipeE ρ1 own) ∧
    (∀ i d acc ρ, ds[i]? = some d → acc.length ≤ i → I i acc ρ → ∃ ρ1, tg d ρ = some ρ1 ∧ Ev ct ρ1 fun b ρ2 => if b = true then Ev el ρ2 fun o ρ3 => I (i + 1) (acc ++ [o]) (wipeE ρ3 own) else I (i + 1) acc (wipeE ρ2 own)) ∧
    ∀ os ρ2, I ds.length os ρ2 → P (.lst os) (keepE ρ1 own ρ2)) : Ev (eComp own it tg ct el) ρ P :=
  Ev_ecomp (h.mono fun ds ρ1 ⟨hl, I, h0, hs, hd⟩ => let ⟨os, ρ2, e, q⟩ := comp_inv I hl h0 hs; ⟨os, ρ2, e, hd os ρ2 q⟩)
theorem Ev_comp_map {ρ : Env} {own : List Nat} {it : M (List D)} {tg : TF} {el : M O} {P : O → Env → Prop} (h : Ev it ρ fun ds ρ1 => ds.length ≤ 16777216 ∧ ∃ f : D → O,
    (∀ d ∈ ds, ∃ ρ2, tg d (wipeE ρ1 own) = some ρ2 ∧ Ev el ρ2 fun o ρ3 => o = f d ∧ wipeE ρ3 own = wipeE ρ1 own) ∧ P (.lst (ds.map f)) (keepE ρ1 own (wipeE ρ1 own))) : Ev (eComp own it tg tYesM el) ρ P :=
  Ev_ecomp (h.mono fun ds ρ1 ⟨hl, f, hs, hd⟩ => ⟨ds.map f, _, by
    have := comp_map (own := own) (tg := tg) (ct := tYesM) (el := el) (f := f) (ρ := wipeE ρ1 own) ds [] (fun d m => by
      obtain ⟨ρ2, e, o, ρ3, e2, rfl, e3⟩ := hs d m
      exact ⟨ρ2, ρ2, ρ3, e, rfl, e2, e3⟩) (by simpa using hl)
    simpa using this, hd⟩)
theorem Ev_call1 {ρ : Env} {f : List O → Option (O × List O)} {fs : M (List O)} {P : O → Env → Prop} (h : Ev fs ρ fun os ρ1 => Ex f os fun r _ => P r ρ1) : Ev (eCall f [] fs) ρ P := Ev_ecall (h.mono fun os ρ1 h => h.mono fun r outs p => by cases outs <;> exact p)
theorem pow18 : powD (.int 10) (.int 18) = some (.int 1000000000000000000) := rfl
theorem range_nat {n : Nat} (h : n ≤ 16777216) : rangeD1 [.int n] = some ((List.range n).map fun (k : Nat) => .int (k : Int)) := by
  have e : rangeB (n : Int) = true := by
    unfold rangeB
    exact decide_eq_true ⟨by omega, by omega⟩
  simp only [rangeD1, e, if_true, Int.toNat_natCast, Int.zero_add]
theorem range_lit {j : Int} (h0 : 0 ≤ j) (h : j ≤ 16777216) : rangeD1 [.int j] = some ((List.range j.toNat).map fun (k : Nat) => .int (k : Int)) := by
  obtain ⟨n, rfl⟩ := Int.eq_ofNat_of_zero_le h0
  exact range_nat (by omega)
theorem cut_head {α : Type} (xs : List α) (n : Nat) : cut xs none (some (n : Int)) = xs.take n := by
  unfold cut
  have e1 : HT.sIx xs.length 0 none = 0 := rfl
  rw [e1, List.drop_zero, Nat.sub_zero, HT.sIx_nat, List.take_eq_take_min, Nat.min_assoc, Nat.min_self, ← List.take_eq_take_min]
theorem ix_lst {ds : List D} {i : Nat} {d : D} (h : ds[i]? = some d) : ixD (.lst ds) (.int (i : Nat)) = some d := at_nat h
def kp (ρ0 : Env) (v : Nat) : Option O := match ρ0[v]? with
  | some (some (.pur d)) => some (.pur d)
  | _ => none
theorem keepE_nil (ρ0 ρ : Env) : keepE ρ0 [] ρ = ρ := rfl
theorem keepE_cons (ρ0 ρ : Env) (v : Nat) (vs : List Nat) : keepE ρ0 (v :: vs) ρ = keepE ρ0 vs (ρ.set v (kp ρ0 v)) := by
  show keepE ρ0 vs (match ρ0[v]? with
    | some (some (.pur d)) => ρ.set v (some (.pur d))
    | _ => ρ.set v none) = _
  unfold kp
  split <;> rfl
/-- _law_bag(_law_script); slots: 0 _law_script, 1 _law_cell -/
def b_law_bag : MS :=
  (sRet (eLst (eaCons (purM (dC (.int 0))) (eaCons (purM (dC (.int 1234567891))) (eaCons (purM (dC (.int 0))) (eaCons (eComp [1] (iSeqM (dSl (dVar 0) oNone (oSome (dC (.int 63))))) (fName 1) tYesM (purM (dCall absD (aCons (dVar 1) aNil)))) eaNil))))))
def f_law_bag : List O → Option (O × List O) := runB 2 [] b_law_bag
/-- _law_take(_law_bag_here, _law_many); slots: 0 _law_bag_here*, 1 _law_many, 2 _law_first, 3 _law_second, 4 _law_cell, 5 _law_value -/
def b_law_take : MS :=
  (sSeq (sIf (tBor [] (tOp2 eqD (dOp2 ixD (dVar 0) (dC (.int 0))) (dC (.int 0))))
  (sSeq (sSet 4 (purM (dC (.int 0))))
  (sSeq (sIf (tBor [] (tOp2 ltD (dOp2 ixD (dVar 0) (dC (.int 2))) (dCall lenD (aCons (dOp2 ixD (dVar 0) (dC (.int 3))) aNil))))
  (sSet 4 (purM (fzM (eBor [] (purM (dOp2 ixD (dOp2 ixD (dVar 0) (dC (.int 3))) (dOp2 ixD (dVar 0) (dC (.int 2)))))))))
  sNext)
  (sSeq (sAugIx 0 (dC (.int 2)) (fun i j => i + j) (dC (.int 1)))
  (sSeq (sIf (tOp2 geD (dVar 4) (dC (.int 1000000000000000000)))
  (sSetIx 0 (dC (.int 0)) (purM (dVar 4)))
  sNext)
  (sSetIx 0 (dC (.int 1)) (eBor [] (purM (dOp2 modD (dOp2 addD (dOp2 addD (dOp2 mulD (dOp2 ixD (dVar 0) (dC (.int 1))) (dC (.int 48271))) (dOp2 modD (dVar 4) (dC (.int 2147483647)))) (dOp2 mulD (dC (.int 7919)) (dOp2 ixD (dVar 0) (dC (.int 2))))) (dC (.int 2147483647))))))))))
  sNext)
  (sSeq (sIf (tBor [] (tOp2 gtD (dOp2 ixD (dVar 0) (dC (.int 0))) (dC (.int 0))))
  (sSeq (sSet 5 (purM (fzM (eBor [] (purM (dOp2 modD (dOp2 ixD (dVar 0) (dC (.int 0))) (dVar 1)))))))
  (sSeq (sSetIx 0 (dC (.int 0)) (eBor [] (purM (dOp2 divD (dOp2 ixD (dVar 0) (dC (.int 0))) (dVar 1)))))
  (sRet (purM (dVar 5)))))
  sNext)
  (sSeq (sSet 2 (purM (fzM (eBor [] (purM (dOp2 modD (dOp2 mulD (dOp2 addD (dOp2 ixD (dVar 0) (dC (.int 1))) (dC (.int 1))) (dC (.int 39373))) (dC (.int 1000000007))))))))
  (sSeq (sSet 3 (purM (dOp2 modD (dOp2 mulD (dOp2 modD (dOp2 mulD (dVar 2) (dVar 2)) (dC (.int 998244353))) (dC (.int 30011))) (dC (.int 998244353)))))
  (sSeq (sIf (tOp2 gtD (dVar 1) (dC (.int 1000000)))
  (sRet (purM (dOp2 modD (dOp2 addD (dOp2 mulD (dVar 3) (dC (.int 1000000007))) (dVar 2)) (dVar 1))))
  sNext)
  (sRet (purM (dOp2 modD (dOp2 divD (dVar 3) (dC (.int 7))) (dVar 1)))))))))
def f_law_take : List O → Option (O × List O) := runB 6 [0] b_law_take
/-- _law_alike(_law_found, _law_due); slots: 0 _law_found, 1 _law_due -/
def b_law_alike : MS :=
  (sRet (purM (dAnd (dOp2 eqD (dVar 0) (dVar 1)) (dOp2 eqD (dCall reprD (aCons (dVar 0) aNil)) (dCall reprD (aCons (dVar 1) aNil))))))
def f_law_alike : List O → Option (O × List O) := runB 2 [] b_law_alike
/-- _law_size(_law_bag_here, _law_way); slots: 0 _law_bag_here*, 1 _law_way -/
def b_law_size : MS :=
  (sSeq (sIf (tOp2 eqD (dVar 1) (dC (.int 0)))
  (sRet (purM (dC (.int 1))))
  sNext)
  (sSeq (sIf (tOp2 eqD (dVar 1) (dC (.int 1)))
  (sRet (eCall f_law_take [some 0] (eaCons (eMove 0) (eaCons (purM (dC (.int 4))) eaNil))))
  sNext)
  (sSeq (sIf (tOp2 eqD (dVar 1) (dC (.int 2)))
  (sRet (purM (dOp2 ixD (dLst (aCons (dC (.int 0)) (aCons (dC (.int 0)) (aCons (dOp2 addD (dC (.int 1)) (fzM (eCall f_law_take [some 0] (eaCons (eMove 0) (eaCons (purM (dC (.int 9))) eaNil))))) aNil)))) (fzM (eCall f_law_take [some 0] (eaCons (eMove 0) (eaCons (purM (dC (.int 3))) eaNil)))))))
  sNext)
  (sSeq (sIf (tOp2 eqD (dVar 1) (dC (.int 3)))
  (sRet (eCall f_law_take [some 0] (eaCons (eMove 0) (eaCons (purM (dC (.int 21))) eaNil))))
  sNext)
  (sRet (purM (dOp2 ixD (dLst (aCons (dOp2 powD (dC (.int 10)) (dC (.int 18))) (aCons (fzM (eCall f_law_take [some 0] (eaCons (eMove 0) (eaCons (purM (dOp2 addD (dOp2 powD (dC (.int 10)) (dC (.int 18))) (dC (.int 1)))) eaNil)))) (aCons (dOp2 subD (dOp2 powD (dC (.int 10)) (dC (.int 18))) (fzM (eCall f_law_take [some 0] (eaCons (eMove 0) (eaCons (purM (dC (.int 3))) eaNil))))) aNil)))) (fzM (eCall f_law_take [some 0] (eaCons (eMove 0) (eaCons (purM (dC (.int 3))) eaNil)))))))))))
def f_law_size : List O → Option (O × List O) := runB 2 [0] b_law_size
/-- one step backwards -/
local macro_rules | `(tactic| walk_at "e1") => `(tactic| first
  | with_reducible refine S_next ?_ | with_reducible refine S_ret ?_ | with_reducible refine S_drop ?_ | with_reducible refine S_if ?_ | with_reducible refine S_for ?_
  | with_reducible refine Ev_C ?_ | with_reducible refine Ev_fz ?_ | with_reducible refine Ev_pur ?_ | with_reducible refine Ev_op2 ?_ | with_reducible refine Ev_top2 ?_ | with_reducible refine Ev_op1 ?_ | with_reducible refine Ev_val ?_
  | with_reducible refine Ev_tand ?_ | with_reducible refine Ev_tor ?_ | with_reducible refine Ev_tnot ?_ | with_reducible refine Ev_and ?_ | with_reducible refine Ev_or ?_ | with_reducible refine Ev_not ?_ | with_reducible refine Ev_if ?_
  | with_reducible refine Ev_anil ?_ | with_reducible refine Ev_acons ?_ | with_reducible refine Ev_eanil ?_ | with_reducible refine Ev_eacons ?_ | with_reducible refine Ev_call ?_ | with_reducible refine Ev_onone ?_ | with_reducible refine Ev_osome ?_
  | with_reducible refine Ev_sl ?_ | with_reducible refine Ev_esl ?_ | with_reducible refine Ev_eop2 ?_ | with_reducible refine Ev_eargs ?_ | with_reducible refine Ev_iseq ?_ | with_reducible refine Ev_iargs ?_ | with_reducible refine Ev_yes ?_
  | with_reducible refine Ev_chain ?_ | with_reducible refine Ev_tchain ?_
  | (with_reducible refine Ev_tbor ?_; simp only [frzE, Option.map_some, Option.map_none, O.fz, fzs, fzs_ints, fzs_purs])
  | (with_reducible refine Ev_bor ?_; simp only [frzE, Option.map_some, Option.map_none, O.fz, fzs, fzs_ints, fzs_purs])
  | ((with_reducible show (if (!true) = true then _ else _)); rw [if_neg (by decide)]) | ((with_reducible show (if (!false) = true then _ else _)); rw [if_pos (by decide)])
  | with_reducible refine Ev_call1 ?_ | ((with_reducible show (if true = true then _ else _)); rw [if_pos rfl]) | ((with_reducible show (if false = true then _ else _)); rw [if_neg Bool.false_ne_true])
  | ((with_reducible show Ev (dVar _) _ _); refine Ev_var rfl ?_)
  | ((with_reducible show Ev (eMove _) _ _); refine Ev_move rfl ?_; (try simp only [List.set_cons_zero, List.set_cons_succ]))
  | ((with_reducible refine S_set ?_))
  | (with_reducible refine S_asg ?_)
  | ((with_reducible refine Ev_tup ?_)) | ((with_reducible refine Ev_lst ?_)) | ((with_reducible refine Ev_elst ?_)) | ((with_reducible refine Ev_etup ?_))
  | ((with_reducible show ∃ _, powD _ _ = some _ ∧ _); refine ⟨_, pow18, ?_⟩) | ((with_reducible show ∃ _, powD _ _ = some _ ∧ _); refine ⟨_, rfl, ?_⟩; simp only [Int.reduceToNat, Int.reducePow]) | ((with_reducible show ∃ _, addD _ _ = some _ ∧ _); refine ⟨_, add_ii _ _, ?_⟩) | ((with_reducible show ∃ _, eqD _ _ = some _ ∧ _); refine ⟨_, eq_dec _ _, ?_⟩) | ((with_reducible show ∃ _, neD _ _ = some _ ∧ _); refine ⟨_, ne_dec _ _, ?_⟩) | ((with_reducible show ∃ _, ltD _ _ = some _ ∧ _); refine ⟨_, lt_dec _ _, ?_⟩) | ((with_reducible show ∃ _, leD _ _ = some _ ∧ _); refine ⟨_, le_dec _ _, ?_⟩) | ((with_reducible show ∃ _, gtD _ _ = some _ ∧ _); refine ⟨_, gt_dec _ _, ?_⟩) | ((with_reducible show ∃ _, geD _ _ = some _ ∧ _); refine ⟨_, ge_dec _ _, ?_⟩) | ((with_reducible show ∃ _, subD _ _ = some _ ∧ _); refine ⟨_, sub_ii _ _, ?_⟩) | ((with_reducible show ∃ _, negD _ = some _ ∧ _); refine ⟨_, neg_i _, ?_⟩)
  | ((with_reducible show ∃ _, mulD _ _ = some _ ∧ _); refine ⟨_, mul_ii (by omega), ?_⟩) | ((with_reducible show ∃ _, modD _ _ = some _ ∧ _); refine ⟨_, mod_ii (by omega), ?_⟩) | ((with_reducible show ∃ _, divD _ _ = some _ ∧ _); refine ⟨_, div_ii (by omega) (by omega), ?_⟩)
  | ((with_reducible show ∃ _, mixE _ _ _ = some _ ∧ _); refine ⟨_, mix_nil rfl, ?_⟩)
  | ((with_reducible show _ < List.length _ ∧ _); refine ⟨of_decide_eq_true rfl, ?_⟩; (try simp only [List.set_cons_zero, List.set_cons_succ, O.fz, fzs_ints, fzs_purs, keepE_cons, keepE_nil, wipeE]))
  | ((with_reducible show (_ < List.length _ ∧ _) ∧ _); refine ⟨of_decide_eq_true rfl, ?_⟩; (try simp only [List.set_cons_zero, List.set_cons_succ, O.fz, fzs_ints, fzs_purs, keepE_cons, keepE_nil, wipeE]))
  | ((with_reducible show List.length _ ≤ 1000 ∧ _); refine ⟨of_decide_eq_true rfl, ?_⟩; (try simp only [List.set_cons_zero, List.set_cons_succ, O.fz, fzs_ints, fzs_purs, keepE_cons, keepE_nil, wipeE]))
  | ((with_reducible show flatO _ = true ∧ _); refine ⟨rfl, ?_⟩)
  | ((with_reducible show Ev (eaLate _ _) _ _); refine Ev_late rfl ?_)
  | with_reducible refine S_setIx ?_
  | ((with_reducible show EvS (sAugIx _ _ _ _) _ _ _ _ _); refine S_augIx rfl ?_)
  | ((with_reducible show EvS (sAug _ _ _) _ _ _ _ _); refine S_aug rfl ?_)
  | ((with_reducible show ∃ a b c, _ = D.int a ∧ _ ∧ _ ∧ _); refine ⟨_, _, _, rfl, rfl, rfl, ?_⟩; simp only [List.set_cons_zero, List.set_cons_succ, Int.toNat_ofNat, Int.reduceToNat])
  | ((with_reducible show ∃ a b c, _ = D.int a ∧ _ ∧ _ ∧ _); refine ⟨_, _, _, rfl, rfl, rfl, ?_⟩)
  | ((with_reducible show ∃ _, ixD _ _ = some _ ∧ _); refine ⟨_, rfl, ?_⟩)
  | ((with_reducible show ∃ _, lenD _ = some _ ∧ _); refine ⟨_, rfl, ?_⟩)
  | ((with_reducible show ∃ _, absD _ = some _ ∧ _); refine ⟨_, rfl, ?_⟩)
  | ((with_reducible show ∃ _, itemsD _ = some _ ∧ _); refine ⟨_, rfl, ?_⟩)
  | ((with_reducible show ∃ _, tupleD _ = some _ ∧ _); refine ⟨_, rfl, ?_⟩)
  | ((with_reducible show ∃ _, listD _ = some _ ∧ _); refine ⟨_, rfl, ?_⟩)
  | ((with_reducible show ∃ _, listL _ = some _ ∧ _); refine ⟨_, rfl, ?_⟩)
  | ((with_reducible show ∃ _, toIntD _ = some _ ∧ _); refine ⟨_, rfl, ?_⟩)
  | ((with_reducible show ∃ _, isD _ _ = some _ ∧ _); refine ⟨_, rfl, ?_⟩)
  | ((with_reducible show ∃ _, isNotD _ _ = some _ ∧ _); refine ⟨_, rfl, ?_⟩)
  | ((with_reducible show ∃ _, takeS _ _ = some _ ∧ _); refine ⟨_, rfl, ?_⟩)
  | ((with_reducible show ∃ _, fName _ _ _ = some _ ∧ _); refine ⟨_, rfl, ?_⟩; (try simp only [List.set_cons_zero, List.set_cons_succ]))
  | ((with_reducible show ∃ _, fTup _ _ _ _ = some _ ∧ _); refine ⟨_, rfl, ?_⟩; (try simp only [List.set_cons_zero, List.set_cons_succ]))
  | ((with_reducible show ∃ _, slD _ _ _ = some _ ∧ _); refine ⟨_, rfl, ?_⟩)
  | ((with_reducible show ∃ _, slL _ _ _ = some _ ∧ _); refine ⟨_, rfl, ?_⟩)
  | ((with_reducible show ∃ _, List.set _ _ _ = some _ ∧ _); refine ⟨_, rfl, ?_⟩)
  | ((with_reducible show ∃ _, getElem? _ _ = some _ ∧ _); refine ⟨_, rfl, ?_⟩)
  | ((with_reducible show ∃ _, rangeD1 [D.int (Nat.cast _)] = some _ ∧ _); refine ⟨_, range_nat (by omega), ?_⟩) | ((with_reducible show ∃ _, rangeD1 _ = some _ ∧ _); refine ⟨_, range_lit (by omega) (by omega), ?_⟩)
  | ((with_reducible show ∃ _, _ = D.int _ ∧ _); refine ⟨_, rfl, ?_⟩)
  | ((with_reducible show ∃ _, maxD [D.int _, D.int _] = some _ ∧ _); refine ⟨_, rfl, ?_⟩) | ((with_reducible show ∃ _, minD [D.int _, D.int _] = some _ ∧ _); refine ⟨_, rfl, ?_⟩)
  | ((with_reducible show ∃ _, truD _ = some _ ∧ _); refine ⟨_, rfl, ?_⟩)
  | ((with_reducible show ∃ _, _ = D.bl _ ∧ _); refine ⟨_, rfl, ?_⟩)
  | ((with_reducible show ∃ _, neD (.str _) (.str _) = some _ ∧ _); refine ⟨_, ne_str _, ?_⟩) | ((with_reducible show ∃ _, eqD (.str _) (.str _) = some _ ∧ _); refine ⟨_, eq_str _, ?_⟩))
local macro_rules | `(tactic| walk_at "e") => `(tactic| repeat walk_at "e1")
local macro_rules | `(tactic| walk_at "s") => `(tactic| repeat (first | with_reducible refine S_seq ?_ | walk_at "e1"))
local macro_rules | `(tactic| walk_at "n") => `(tactic| try simp only [List.set_cons_zero, List.set_cons_succ, O.fz, fzs_ints, fzs_purs, keepE_cons, keepE_nil, wipeE])
/-- the bag: a heap, a state, a place, the cells -/
def BagOk (o : O) : Prop := ∃ (h s a : Int) (cs : List Int), o = .lst [.pur (.int h), .pur (.int s), .pur (.int a), .lst (cs.map fun c => .pur (.int c))] ∧ 0 ≤ a
theorem take_spec {o : O} {n : Int} (hb : BagOk o) (h0 : 0 < n) (h1 : n < 10 ^ 60) : Ex f_law_take [o, .pur (.int n)] fun r outs => ∃ i o', r = .pur (.int i) ∧ (0 ≤ i ∧ i < n) ∧ outs = [o'] ∧ BagOk o' := by
  obtain ⟨h, s, a, cs, rfl, ha⟩ := hb
  refine Ex_run ?_
  show EvS _ [_, _, _, _, _, _] _ _ _ _
  unfold b_law_take
  refine S_cut (fun ρ => ∃ (h s a : Int) (x : Option O), ρ = [some (.lst [.pur (.int h), .pur (.int s), .pur (.int a), .lst (cs.map fun c => .pur (.int c))]), some (.pur (.int n)), none, none, x, none] ∧ 0 ≤ a) ?_ ?_
  · walk_at "e"
    refine ite_dec (fun hh => ?_) (fun hh => S_next ⟨_, _, _, _, rfl, ha⟩)
    refine S_seq ?_
    walk_at "e"
    refine S_cut (fun ρ => ∃ c : Int, ρ = [some (.lst [.pur (.int h), .pur (.int s), .pur (.int a), .lst (cs.map fun c => .pur (.int c))]), some (.pur (.int n)), none, none, some (.pur (.int c)), none]) ?_ ?_
    · walk_at "e"
      refine ite_dec (fun hl => ?_) (fun _ => S_next ⟨_, rfl⟩)
      walk_at "e"
      have hl' : a.toNat < cs.length := by rw [List.length_map] at hl; omega
      refine ⟨.int cs[a.toNat], ?_, rfl, _, mix_nil rfl, of_decide_eq_true rfl, ?_⟩
      · show atI (cs.map D.int) a = _
        rw [at_ok ha (by simpa using hl'), List.getElem_map]
      · simp only [List.set_cons_zero, List.set_cons_succ, O.fz]
        exact ⟨_, rfl⟩
    · rintro _ ⟨c, rfl⟩
      refine S_seq ?_
      walk_at "e"
      refine S_cut (fun ρ => ∃ (h s a : Int), ρ = [some (.lst [.pur (.int h), .pur (.int s), .pur (.int a), .lst (cs.map fun c => .pur (.int c))]), some (.pur (.int n)), none, none, some (.pur (.int c)), none] ∧ 0 ≤ a) ?_ ?_
      · walk_at "e"
        refine ite_dec (fun hl => ?_) (fun _ => S_next ⟨_, _, _, rfl, by omega⟩)
        walk_at "e"
        exact ⟨_, _, _, rfl, by omega⟩
      · rintro _ ⟨h, s, a, rfl, ha⟩
        walk_at "e"
        exact ⟨_, _, _, _, rfl, ha⟩
  · rintro _ ⟨h, s, a, x, rfl, ha⟩
    refine S_seq ?_
    walk_at "e"
    refine ite_dec (fun hh => ?_) (fun hh => ?_)
    · walk_at "s"
      exact ⟨_, _, rfl, ⟨Int.emod_nonneg _ (by omega), Int.emod_lt_of_pos _ h0⟩, rfl, _, _, _, _, rfl, ha⟩
    · walk_at "s"
      refine ite_dec (fun hh => ?_) (fun hh => ?_)
      · walk_at "s"
        exact ⟨_, _, rfl, ⟨Int.emod_nonneg _ (by omega), Int.emod_lt_of_pos _ h0⟩, rfl, _, _, _, _, rfl, ha⟩
      · walk_at "s"
        exact ⟨_, _, rfl, ⟨Int.emod_nonneg _ (by omega), Int.emod_lt_of_pos _ h0⟩, rfl, _, _, _, _, rfl, ha⟩
theorem Ev_take {ρ : Env} {i : Nat} {o : O} {fn : M D} {P : O → Env → Prop} (h : ρ[i]? = some (some o)) (hb : BagOk o) (hn : Ev fn (ρ.set i none) fun d ρ1 => ∃ n : Int, d = .int n ∧ 0 < n ∧ n < 10 ^ 60 ∧ ∀ r o', 0 ≤ r → r < n → BagOk o' → P (.pur (.int r)) (ρ1.set i (some o'))) :
    Ev (eCall f_law_take [some i] (eaCons (eMove i) (eaCons (purM fn) eaNil))) ρ P := by
  refine Ev_ecall (Ev_eacons (Ev_move h (Ev_eacons (Ev_pur (hn.mono fun d ρ1 ⟨n, e, h0, h1, k⟩ => Ev_eanil ?_)))))
  subst e
  exact (take_spec hb h0 h1).mono fun r outs ⟨j, o', e1, ⟨q1, q2⟩, e2, hb'⟩ => by subst e1 e2; exact k j o' q1 q2 hb'
local macro_rules | `(tactic| walk_at "e1") => `(tactic| ((with_reducible show Ev (eCall f_law_take _ _) _ _); refine Ev_take rfl (by assumption) ?_; (try simp only [List.set_cons_zero, List.set_cons_succ])))
local macro_rules | `(tactic| walk_at "e1") => `(tactic| ((with_reducible show ∀ _ _, _ → _ → BagOk _ → _); intro r o' h1 h2 hb; (try simp only [List.set_cons_zero, List.set_cons_succ, O.fz])))
local macro_rules | `(tactic| walk_at "e1") => `(tactic| ((with_reducible show _ < _ ∧ _); refine ⟨by omega, ?_⟩))
theorem bag_spec (ns : List Int) : Ex f_law_bag [.pur (.scr ns)] fun r outs => BagOk r ∧ outs = [] := by
  refine Ex_run ?_
  show EvS _ [_, _] _ _ _ _
  unfold b_law_bag
  walk_at "s"
  refine Ev_comp_map ?_
  walk_at "s"
  rw [show cut (ns.map D.int) none (some 63) = (ns.map D.int).take 63 from cut_head _ 63, ← List.map_take]
  refine ⟨by simp; omega, fun d => match d with | .int i => .pur (.int (if i < 0 then -i else i)) | _ => .pur .non, ?_, ?_⟩
  · intro d hd
    obtain ⟨i, _, rfl⟩ := List.mem_map.mp hd
    refine ⟨_, rfl, ?_⟩
    walk_at "s"
    exact ⟨rfl, rfl⟩
  · walk_at "s"
    refine ⟨⟨0, 1234567891, 0, ((ns.take 63).map fun i => if i < 0 then -i else i), ?_, by omega⟩, rfl⟩
    simp only [List.map_map]
    rfl
theorem three {r : Int} (h : 0 ≤ r) (h2 : r < 3) : r = 0 ∨ r = 1 ∨ r = 2 := by omega
theorem size_spec {o : O} {w : Int} (hb : BagOk o) : Ex f_law_size [o, .pur (.int w)] fun r outs => ∃ i o', r = .pur (.int i) ∧ (0 ≤ i ∧ i ≤ 10 ^ 18) ∧ outs = [o'] ∧ BagOk o' := by
  refine Ex_run ?_
  show EvS _ [_, _] _ _ _ _
  unfold b_law_size
  walk_at "s"
  refine ite_dec (fun hh => ?_) (fun hh => ?_)
  · walk_at "s"
    exact ⟨_, _, rfl, by omega, rfl, hb⟩
  walk_at "s"
  refine ite_dec (fun hh => ?_) (fun hh => ?_)
  · walk_at "s"
    exact ⟨_, _, rfl, by omega, rfl, by assumption⟩
  walk_at "s"
  refine ite_dec (fun hh => ?_) (fun hh => ?_)
  · walk_at "s"
    obtain h | h | h := three (by assumption) (by assumption) <;> subst h <;> walk_at "s" <;> exact ⟨_, _, rfl, by omega, rfl, by assumption⟩
  walk_at "s"
  refine ite_dec (fun hh => ?_) (fun hh => ?_)
  · walk_at "s"
    exact ⟨_, _, rfl, by omega, rfl, by assumption⟩
  walk_at "s"
  obtain h | h | h := three (by assumption) (by assumption) <;> subst h <;> walk_at "s" <;> exact ⟨_, _, rfl, by omega, rfl, by assumption⟩
end DL.Sh
set_option Elab.async false
set_option linter.all false
set_option maxRecDepth 100000
set_option maxHeartbeats 4000000
namespace DL.Sh
open PySem PySem.Spec PyProof.Rows L2
/-- one step backwards -/
local macro_rules | `(tactic| walk_at "e1") => `(tactic| first
  | with_reducible refine S_next ?_ | with_reducible refine S_ret ?_ | with_reducible refine S_drop ?_ | with_reducible refine S_if ?_ | with_reducible refine S_for ?_
  | with_reducible refine Ev_C ?_ | with_reducible refine Ev_fz ?_ | with_reducible refine Ev_pur ?_ | with_reducible refine Ev_op2 ?_ | with_reducible refine Ev_top2 ?_ | with_reducible refine Ev_op1 ?_ | with_reducible refine Ev_val ?_
  | with_reducible refine Ev_tand ?_ | with_reducible refine Ev_tor ?_ | with_reducible refine Ev_tnot ?_ | with_reducible refine Ev_and ?_ | with_reducible refine Ev_or ?_ | with_reducible refine Ev_not ?_ | with_reducible refine Ev_if ?_
  | with_reducible refine Ev_anil ?_ | with_reducible refine Ev_acons ?_ | with_reducible refine Ev_eanil ?_ | with_reducible refine Ev_eacons ?_ | with_reducible refine Ev_call ?_ | with_reducible refine Ev_onone ?_ | with_reducible refine Ev_osome ?_
  | with_reducible refine Ev_sl ?_ | with_reducible refine Ev_esl ?_ | with_reducible refine Ev_eop2 ?_ | with_reducible refine Ev_eargs ?_ | with_reducible refine Ev_iseq ?_ | with_reducible refine Ev_iargs ?_ | with_reducible refine Ev_yes ?_
  | with_reducible refine Ev_chain ?_ | with_reducible refine Ev_tchain ?_
  | (with_reducible refine Ev_tbor ?_; simp only [frzE, Option.map_some, Option.map_none, O.fz, fzs, fzs_ints, fzs_purs])
  | (with_reducible refine Ev_bor ?_; simp only [frzE, Option.map_some, Option.map_none, O.fz, fzs, fzs_ints, fzs_purs])
  | ((with_reducible show (if (!true) = true then _ else _)); rw [if_neg (by decide)]) | ((with_reducible show (if (!false) = true then _ else _)); rw [if_pos (by decide)])
  | with_reducible refine Ev_call1 ?_ | ((with_reducible show (if true = true then _ else _)); rw [if_pos rfl]) | ((with_reducible show (if false = true then _ else _)); rw [if_neg Bool.false_ne_true])
  | ((with_reducible show Ev (dVar _) _ _); refine Ev_var rfl ?_)
  | ((with_reducible show Ev (eMove _) _ _); refine Ev_move rfl ?_; (try simp only [List.set_cons_zero, List.set_cons_succ]))
  | ((with_reducible refine S_set ?_))
  | (with_reducible refine S_asg ?_)
  | ((with_reducible refine Ev_tup ?_)) | ((with_reducible refine Ev_lst ?_)) | ((with_reducible refine Ev_elst ?_)) | ((with_reducible refine Ev_etup ?_))
  | ((with_reducible show ∃ _, powD _ _ = some _ ∧ _); refine ⟨_, pow18, ?_⟩) | ((with_reducible show ∃ _, powD _ _ = some _ ∧ _); refine ⟨_, rfl, ?_⟩; simp only [Int.reduceToNat, Int.reducePow]) | ((with_reducible show ∃ _, addD _ _ = some _ ∧ _); refine ⟨_, add_ii _ _, ?_⟩) | ((with_reducible show ∃ _, eqD _ _ = some _ ∧ _); refine ⟨_, eq_dec _ _, ?_⟩) | ((with_reducible show ∃ _, neD _ _ = some _ ∧ _); refine ⟨_, ne_dec _ _, ?_⟩) | ((with_reducible show ∃ _, ltD _ _ = some _ ∧ _); refine ⟨_, lt_dec _ _, ?_⟩) | ((with_reducible show ∃ _, leD _ _ = some _ ∧ _); refine ⟨_, le_dec _ _, ?_⟩) | ((with_reducible show ∃ _, gtD _ _ = some _ ∧ _); refine ⟨_, gt_dec _ _, ?_⟩) | ((with_reducible show ∃ _, geD _ _ = some _ ∧ _); refine ⟨_, ge_dec _ _, ?_⟩) | ((with_reducible show ∃ _, subD _ _ = some _ ∧ _); refine ⟨_, sub_ii _ _, ?_⟩) | ((with_reducible show ∃ _, negD _ = some _ ∧ _); refine ⟨_, neg_i _, ?_⟩)
  | ((with_reducible show ∃ _, mulD _ _ = some _ ∧ _); refine ⟨_, mul_ii (by omega), ?_⟩) | ((with_reducible show ∃ _, modD _ _ = some _ ∧ _); refine ⟨_, mod_ii (by omega), ?_⟩) | ((with_reducible show ∃ _, divD _ _ = some _ ∧ _); refine ⟨_, div_ii (by omega) (by omega), ?_⟩)
  | ((with_reducible show ∃ _, mixE _ _ _ = some _ ∧ _); refine ⟨_, mix_nil rfl, ?_⟩)
  | ((with_reducible show _ < List.length _ ∧ _); refine ⟨of_decide_eq_true rfl, ?_⟩; (try simp only [List.set_cons_zero, List.set_cons_succ, O.fz, fzs_ints, fzs_purs, keepE_cons, keepE_nil, wipeE]))
  | ((with_reducible show (_ < List.length _ ∧ _) ∧ _); refine ⟨of_decide_eq_true rfl, ?_⟩; (try simp only [List.set_cons_zero, List.set_cons_succ, O.fz, fzs_ints, fzs_purs, keepE_cons, keepE_nil, wipeE]))
  | ((with_reducible show List.length _ ≤ 1000 ∧ _); refine ⟨of_decide_eq_true rfl, ?_⟩; (try simp only [List.set_cons_zero, List.set_cons_succ, O.fz, fzs_ints, fzs_purs, keepE_cons, keepE_nil, wipeE]))
  | ((with_reducible show flatO _ = true ∧ _); refine ⟨rfl, ?_⟩)
  | ((with_reducible show Ev (eaLate _ _) _ _); refine Ev_late rfl ?_)
  | with_reducible refine S_setIx ?_
  | ((with_reducible show EvS (sAugIx _ _ _ _) _ _ _ _ _); refine S_augIx rfl ?_)
  | ((with_reducible show EvS (sAug _ _ _) _ _ _ _ _); refine S_aug rfl ?_)
  | ((with_reducible show ∃ a b c, _ = D.int a ∧ _ ∧ _ ∧ _); refine ⟨_, _, _, rfl, rfl, rfl, ?_⟩; simp only [List.set_cons_zero, List.set_cons_succ, Int.toNat_ofNat, Int.reduceToNat])
  | ((with_reducible show ∃ a b c, _ = D.int a ∧ _ ∧ _ ∧ _); refine ⟨_, _, _, rfl, rfl, rfl, ?_⟩)
  | ((with_reducible show ∃ _, ixD _ _ = some _ ∧ _); refine ⟨_, rfl, ?_⟩)
  | ((with_reducible show ∃ _, lenD _ = some _ ∧ _); refine ⟨_, rfl, ?_⟩)
  | ((with_reducible show ∃ _, absD _ = some _ ∧ _); refine ⟨_, rfl, ?_⟩)
  | ((with_reducible show ∃ _, itemsD _ = some _ ∧ _); refine ⟨_, rfl, ?_⟩)
  | ((with_reducible show ∃ _, tupleD _ = some _ ∧ _); refine ⟨_, rfl, ?_⟩)
  | ((with_reducible show ∃ _, listD _ = some _ ∧ _); refine ⟨_, rfl, ?_⟩)
  | ((with_reducible show ∃ _, listL _ = some _ ∧ _); refine ⟨_, rfl, ?_⟩)
  | ((with_reducible show ∃ _, toIntD _ = some _ ∧ _); refine ⟨_, rfl, ?_⟩)
  | ((with_reducible show ∃ _, isD _ _ = some _ ∧ _); refine ⟨_, rfl, ?_⟩)
  | ((with_reducible show ∃ _, isNotD _ _ = some _ ∧ _); refine ⟨_, rfl, ?_⟩)
  | ((with_reducible show ∃ _, takeS _ _ = some _ ∧ _); refine ⟨_, rfl, ?_⟩)
  | ((with_reducible show ∃ _, fName _ _ _ = some _ ∧ _); refine ⟨_, rfl, ?_⟩; (try simp only [List.set_cons_zero, List.set_cons_succ]))
  | ((with_reducible show ∃ _, fTup _ _ _ _ = some _ ∧ _); refine ⟨_, rfl, ?_⟩; (try simp only [List.set_cons_zero, List.set_cons_succ]))
  | ((with_reducible show ∃ _, slD _ _ _ = some _ ∧ _); refine ⟨_, rfl, ?_⟩)
  | ((with_reducible show ∃ _, slL _ _ _ = some _ ∧ _); refine ⟨_, rfl, ?_⟩)
  | ((with_reducible show ∃ _, List.set _ _ _ = some _ ∧ _); refine ⟨_, rfl, ?_⟩)
  | ((with_reducible show ∃ _, getElem? _ _ = some _ ∧ _); refine ⟨_, rfl, ?_⟩)
  | ((with_reducible show ∃ _, rangeD1 [D.int (Nat.cast _)] = some _ ∧ _); refine ⟨_, range_nat (by omega), ?_⟩) | ((with_reducible show ∃ _, rangeD1 _ = some _ ∧ _); refine ⟨_, range_lit (by omega) (by omega), ?_⟩)
  | ((with_reducible show ∃ _, _ = D.int _ ∧ _); refine ⟨_, rfl, ?_⟩)
  | ((with_reducible show ∃ _, maxD [D.int _, D.int _] = some _ ∧ _); refine ⟨_, rfl, ?_⟩) | ((with_reducible show ∃ _, minD [D.int _, D.int _] = some _ ∧ _); refine ⟨_, rfl, ?_⟩)
  | ((with_reducible show ∃ _, truD _ = some _ ∧ _); refine ⟨_, rfl, ?_⟩)
  | ((with_reducible show ∃ _, _ = D.bl _ ∧ _); refine ⟨_, rfl, ?_⟩)
  | ((with_reducible show ∃ _, neD (.str _) (.str _) = some _ ∧ _); refine ⟨_, ne_str _, ?_⟩) | ((with_reducible show ∃ _, eqD (.str _) (.str _) = some _ ∧ _); refine ⟨_, eq_str _, ?_⟩))
local macro_rules | `(tactic| walk_at "e") => `(tactic| repeat walk_at "e1")
local macro_rules | `(tactic| walk_at "s") => `(tactic| repeat (first | with_reducible refine S_seq ?_ | walk_at "e1"))
local macro_rules | `(tactic| walk_at "n") => `(tactic| try simp only [List.set_cons_zero, List.set_cons_succ, O.fz, fzs_ints, fzs_purs, keepE_cons, keepE_nil, wipeE])
local macro_rules | `(tactic| walk_at "e1") => `(tactic| ((with_reducible show Ev (eCall f_law_take _ _) _ _); refine Ev_take rfl (by assumption) ?_; (try simp only [List.set_cons_zero, List.set_cons_succ])))
local macro_rules | `(tactic| walk_at "e1") => `(tactic| ((with_reducible show ∀ _ _, _ → _ → BagOk _ → _); intro r o' h1 h2 hb; (try simp only [List.set_cons_zero, List.set_cons_succ, O.fz])))
local macro_rules | `(tactic| walk_at "e1") => `(tactic| ((with_reducible show _ < _ ∧ _); refine ⟨by omega, ?_⟩))
theorem alike_spec {n : Nat} {d : D} (h : Nice 64 n d) (hn : n ≤ 16777216) : f_law_alike [.pur d, .pur d] = some (.pur (.bl true), []) := by
  have : Ex f_law_alike [.pur d, .pur d] fun r outs => r = .pur (.bl true) ∧ outs = [] := by
    refine Ex_run ?_
    show EvS _ [_, _] _ _ _ _
    unfold b_law_alike
    walk_at "s"
    refine ⟨_, eq_self h, ?_⟩
    obtain ⟨s, e⟩ := repr_nice h hn
    walk_at "s"
    refine ⟨_, e, ?_⟩
    walk_at "s"
    refine ⟨_, e, ?_⟩
    walk_at "s"
    exact ⟨rfl, rfl⟩
  obtain ⟨r, outs, e, rfl, rfl⟩ := this
  exact e
/-- rows of numbers, each from 0 to 10 ^ 40 (RowsB: to a bound) -/
def rowsD (rows : List (List Int)) : List D := rows.map fun r => .tup (r.map .int)
def RowsOk (w : Nat) (rows : List (List Int)) : Prop := ∀ r ∈ rows, r.length = w ∧ ∀ x ∈ r, 0 ≤ x ∧ x ≤ 10 ^ 40
def RowsB (w : Nat) (b : Int) (rows : List (List Int)) : Prop := ∀ r ∈ rows, r.length = w ∧ ∀ x ∈ r, 0 ≤ x ∧ x ≤ b
theorem RowsB.ok {w : Nat} {b : Int} {rows : List (List Int)} (h : RowsB w b rows) (hb : b ≤ 10 ^ 40) : RowsOk w rows := fun r m => ⟨(h r m).1, fun x k => ⟨((h r m).2 x k).1, Int.le_trans ((h r m).2 x k).2 hb⟩⟩
theorem Ev_size {ρ : Env} {i : Nat} {o : O} {fn : M D} {P : O → Env → Prop} (h : ρ[i]? = some (some o)) (hb : BagOk o) (hn : Ev fn (ρ.set i none) fun d ρ1 => ∃ n : Int, d = .int n ∧ ∀ r o', 0 ≤ r → r ≤ 10 ^ 18 → BagOk o' → P (.pur (.int r)) (ρ1.set i (some o'))) :
    Ev (eCall f_law_size [some i] (eaCons (eMove i) (eaCons (purM fn) eaNil))) ρ P := by
  refine Ev_ecall (Ev_eacons (Ev_move h (Ev_eacons (Ev_pur (hn.mono fun d ρ1 ⟨n, e, k⟩ => Ev_eanil ?_)))))
  subst e
  exact (size_spec hb).mono fun r outs ⟨j, o', e1, ⟨q1, q2⟩, e2, hb'⟩ => by subst e1 e2; exact k j o' q1 q2 hb'
local macro_rules | `(tactic| walk_at "e1") => `(tactic| ((with_reducible show Ev (eCall f_law_size _ _) _ _); refine Ev_size rfl (by assumption) ?_; (try simp only [List.set_cons_zero, List.set_cons_succ])))
theorem Ex_of {f : List O → Option (O × List O)} {as : List O} {r : O} {outs : List O} {P : O → List O → Prop} (h : f as = some (r, outs)) (p : P r outs) : Ex f as P := ⟨r, outs, h, p⟩
theorem law_of {f : List O → Option (O × List O)} {a : O} (h : Ex f [a] fun r outs => r = .pur (.bl true) ∧ outs = []) : f [a] = some (.pur (.bl true), []) := by
  obtain ⟨r, outs, e, rfl, rfl⟩ := h
  exact e
end DL.Sh
set_option Elab.async false
set_option linter.all false
set_option maxRecDepth 100000
set_option maxHeartbeats 4000000
namespace DL.Sh
open PySem PySem.Spec PyProof.Rows L2
/-- one step backwards -/
local macro_rules | `(tactic| walk_at "e1") => `(tactic| first
  | with_reducible refine S_next ?_ | with_reducible refine S_ret ?_ | with_reducible refine S_drop ?_ | with_reducible refine S_if ?_ | with_reducible refine S_for ?_
  | with_reducible refine Ev_C ?_ | with_reducible refine Ev_fz ?_ | with_reducible refine Ev_pur ?_ | with_reducible refine Ev_op2 ?_ | with_reducible refine Ev_top2 ?_ | with_reducible refine Ev_op1 ?_ | with_reducible refine Ev_val ?_
  | with_reducible refine Ev_tand ?_ | with_reducible refine Ev_tor ?_ | with_reducible refine Ev_tnot ?_ | with_reducible refine Ev_and ?_ | with_reducible refine Ev_or ?_ | with_reducible refine Ev_not ?_ | with_reducible refine Ev_if ?_
  | with_reducible refine Ev_anil ?_ | with_reducible refine Ev_acons ?_ | with_reducible refine Ev_eanil ?_ | with_reducible refine Ev_eacons ?_ | with_reducible refine Ev_call ?_ | with_reducible refine Ev_onone ?_ | with_reducible refine Ev_osome ?_
  | with_reducible refine Ev_sl ?_ | with_reducible refine Ev_esl ?_ | with_reducible refine Ev_eop2 ?_ | with_reducible refine Ev_eargs ?_ | with_reducible refine Ev_iseq ?_ | with_reducible refine Ev_iargs ?_ | with_reducible refine Ev_yes ?_
  | with_reducible refine Ev_chain ?_ | with_reducible refine Ev_tchain ?_
  | (with_reducible refine Ev_tbor ?_; simp only [frzE, Option.map_some, Option.map_none, O.fz, fzs, fzs_ints, fzs_purs])
  | (with_reducible refine Ev_bor ?_; simp only [frzE, Option.map_some, Option.map_none, O.fz, fzs, fzs_ints, fzs_purs])
  | ((with_reducible show (if (!true) = true then _ else _)); rw [if_neg (by decide)]) | ((with_reducible show (if (!false) = true then _ else _)); rw [if_pos (by decide)])
  | with_reducible refine Ev_call1 ?_ | ((with_reducible show (if true = true then _ else _)); rw [if_pos rfl]) | ((with_reducible show (if false = true then _ else _)); rw [if_neg Bool.false_ne_true])
  | ((with_reducible show Ev (dVar _) _ _); refine Ev_var rfl ?_)
  | ((with_reducible show Ev (eMove _) _ _); refine Ev_move rfl ?_; (try simp only [List.set_cons_zero, List.set_cons_succ]))
  | ((with_reducible refine S_set ?_))
  | (with_reducible refine S_asg ?_)
  | ((with_reducible refine Ev_tup ?_)) | ((with_reducible refine Ev_lst ?_)) | ((with_reducible refine Ev_elst ?_)) | ((with_reducible refine Ev_etup ?_))
  | ((with_reducible show ∃ _, powD _ _ = some _ ∧ _); refine ⟨_, pow18, ?_⟩) | ((with_reducible show ∃ _, powD _ _ = some _ ∧ _); refine ⟨_, rfl, ?_⟩; simp only [Int.reduceToNat, Int.reducePow]) | ((with_reducible show ∃ _, addD _ _ = some _ ∧ _); refine ⟨_, add_ii _ _, ?_⟩) | ((with_reducible show ∃ _, eqD _ _ = some _ ∧ _); refine ⟨_, eq_dec _ _, ?_⟩) | ((with_reducible show ∃ _, neD _ _ = some _ ∧ _); refine ⟨_, ne_dec _ _, ?_⟩) | ((with_reducible show ∃ _, ltD _ _ = some _ ∧ _); refine ⟨_, lt_dec _ _, ?_⟩) | ((with_reducible show ∃ _, leD _ _ = some _ ∧ _); refine ⟨_, le_dec _ _, ?_⟩) | ((with_reducible show ∃ _, gtD _ _ = some _ ∧ _); refine ⟨_, gt_dec _ _, ?_⟩) | ((with_reducible show ∃ _, geD _ _ = some _ ∧ _); refine ⟨_, ge_dec _ _, ?_⟩) | ((with_reducible show ∃ _, subD _ _ = some _ ∧ _); refine ⟨_, sub_ii _ _, ?_⟩) | ((with_reducible show ∃ _, negD _ = some _ ∧ _); refine ⟨_, neg_i _, ?_⟩)
  | ((with_reducible show ∃ _, mulD _ _ = some _ ∧ _); refine ⟨_, mul_ii (by omega), ?_⟩) | ((with_reducible show ∃ _, modD _ _ = some _ ∧ _); refine ⟨_, mod_ii (by omega), ?_⟩) | ((with_reducible show ∃ _, divD _ _ = some _ ∧ _); refine ⟨_, div_ii (by omega) (by omega), ?_⟩)
  | ((with_reducible show ∃ _, mixE _ _ _ = some _ ∧ _); refine ⟨_, mix_nil rfl, ?_⟩)
  | ((with_reducible show _ < List.length _ ∧ _); refine ⟨of_decide_eq_true rfl, ?_⟩; (try simp only [List.set_cons_zero, List.set_cons_succ, O.fz, fzs_ints, fzs_purs, keepE_cons, keepE_nil, wipeE]))
  | ((with_reducible show (_ < List.length _ ∧ _) ∧ _); refine ⟨of_decide_eq_true rfl, ?_⟩; (try simp only [List.set_cons_zero, List.set_cons_succ, O.fz, fzs_ints, fzs_purs, keepE_cons, keepE_nil, wipeE]))
  | ((with_reducible show List.length _ ≤ 1000 ∧ _); refine ⟨of_decide_eq_true rfl, ?_⟩; (try simp only [List.set_cons_zero, List.set_cons_succ, O.fz, fzs_ints, fzs_purs, keepE_cons, keepE_nil, wipeE]))
  | ((with_reducible show flatO _ = true ∧ _); refine ⟨rfl, ?_⟩)
  | ((with_reducible show Ev (eaLate _ _) _ _); refine Ev_late rfl ?_)
  | with_reducible refine S_setIx ?_
  | ((with_reducible show EvS (sAugIx _ _ _ _) _ _ _ _ _); refine S_augIx rfl ?_)
  | ((with_reducible show EvS (sAug _ _ _) _ _ _ _ _); refine S_aug rfl ?_)
  | ((with_reducible show ∃ a b c, _ = D.int a ∧ _ ∧ _ ∧ _); refine ⟨_, _, _, rfl, rfl, rfl, ?_⟩; simp only [List.set_cons_zero, List.set_cons_succ, Int.toNat_ofNat, Int.reduceToNat])
  | ((with_reducible show ∃ a b c, _ = D.int a ∧ _ ∧ _ ∧ _); refine ⟨_, _, _, rfl, rfl, rfl, ?_⟩)
  | ((with_reducible show ∃ _, ixD _ _ = some _ ∧ _); refine ⟨_, rfl, ?_⟩)
  | ((with_reducible show ∃ _, lenD _ = some _ ∧ _); refine ⟨_, rfl, ?_⟩)
  | ((with_reducible show ∃ _, absD _ = some _ ∧ _); refine ⟨_, rfl, ?_⟩)
  | ((with_reducible show ∃ _, itemsD _ = some _ ∧ _); refine ⟨_, rfl, ?_⟩)
  | ((with_reducible show ∃ _, tupleD _ = some _ ∧ _); refine ⟨_, rfl, ?_⟩)
  | ((with_reducible show ∃ _, listD _ = some _ ∧ _); refine ⟨_, rfl, ?_⟩)
  | ((with_reducible show ∃ _, listL _ = some _ ∧ _); refine ⟨_, rfl, ?_⟩)
  | ((with_reducible show ∃ _, toIntD _ = some _ ∧ _); refine ⟨_, rfl, ?_⟩)
  | ((with_reducible show ∃ _, isD _ _ = some _ ∧ _); refine ⟨_, rfl, ?_⟩)
  | ((with_reducible show ∃ _, isNotD _ _ = some _ ∧ _); refine ⟨_, rfl, ?_⟩)
  | ((with_reducible show ∃ _, takeS _ _ = some _ ∧ _); refine ⟨_, rfl, ?_⟩)
  | ((with_reducible show ∃ _, fName _ _ _ = some _ ∧ _); refine ⟨_, rfl, ?_⟩; (try simp only [List.set_cons_zero, List.set_cons_succ]))
  | ((with_reducible show ∃ _, fTup _ _ _ _ = some _ ∧ _); refine ⟨_, rfl, ?_⟩; (try simp only [List.set_cons_zero, List.set_cons_succ]))
  | ((with_reducible show ∃ _, slD _ _ _ = some _ ∧ _); refine ⟨_, rfl, ?_⟩)
  | ((with_reducible show ∃ _, slL _ _ _ = some _ ∧ _); refine ⟨_, rfl, ?_⟩)
  | ((with_reducible show ∃ _, List.set _ _ _ = some _ ∧ _); refine ⟨_, rfl, ?_⟩)
  | ((with_reducible show ∃ _, getElem? _ _ = some _ ∧ _); refine ⟨_, rfl, ?_⟩)
  | ((with_reducible show ∃ _, rangeD1 [D.int (Nat.cast _)] = some _ ∧ _); refine ⟨_, range_nat (by omega), ?_⟩) | ((with_reducible show ∃ _, rangeD1 _ = some _ ∧ _); refine ⟨_, range_lit (by omega) (by omega), ?_⟩)
  | ((with_reducible show ∃ _, _ = D.int _ ∧ _); refine ⟨_, rfl, ?_⟩)
  | ((with_reducible show ∃ _, maxD [D.int _, D.int _] = some _ ∧ _); refine ⟨_, rfl, ?_⟩) | ((with_reducible show ∃ _, minD [D.int _, D.int _] = some _ ∧ _); refine ⟨_, rfl, ?_⟩)
  | ((with_reducible show ∃ _, truD _ = some _ ∧ _); refine ⟨_, rfl, ?_⟩)
  | ((with_reducible show ∃ _, _ = D.bl _ ∧ _); refine ⟨_, rfl, ?_⟩)
  | ((with_reducible show ∃ _, neD (.str _) (.str _) = some _ ∧ _); refine ⟨_, ne_str _, ?_⟩) | ((with_reducible show ∃ _, eqD (.str _) (.str _) = some _ ∧ _); refine ⟨_, eq_str _, ?_⟩))
local macro_rules | `(tactic| walk_at "e") => `(tactic| repeat walk_at "e1")
local macro_rules | `(tactic| walk_at "s") => `(tactic| repeat (first | with_reducible refine S_seq ?_ | walk_at "e1"))
local macro_rules | `(tactic| walk_at "n") => `(tactic| try simp only [List.set_cons_zero, List.set_cons_succ, O.fz, fzs_ints, fzs_purs, keepE_cons, keepE_nil, wipeE])
local macro_rules | `(tactic| walk_at "e1") => `(tactic| ((with_reducible show Ev (eCall f_law_take _ _) _ _); refine Ev_take rfl (by assumption) ?_; (try simp only [List.set_cons_zero, List.set_cons_succ])))
local macro_rules | `(tactic| walk_at "e1") => `(tactic| ((with_reducible show ∀ _ _, _ → _ → BagOk _ → _); intro r o' h1 h2 hb; (try simp only [List.set_cons_zero, List.set_cons_succ, O.fz])))
local macro_rules | `(tactic| walk_at "e1") => `(tactic| ((with_reducible show _ < _ ∧ _); refine ⟨by omega, ?_⟩))
local macro_rules | `(tactic| walk_at "e1") => `(tactic| ((with_reducible show Ev (eCall f_law_size _ _) _ _); refine Ev_size rfl (by assumption) ?_; (try simp only [List.set_cons_zero, List.set_cons_succ])))
def col (rows : List (List Int)) (m : Nat) : List Int := rows.map fun r => r.getD m 0
/-- sums of the first 0, 1, 2, .. -/
def psums (xs : List Int) (n : Nat) : List Int := (List.range (n + 1)).map fun k => (xs.take k).sum
def oints (ns : List Int) : O := .lst (ns.map fun x => .pur (.int x))
theorem oints_fz (ns : List Int) : (oints ns).fz = .lst (ns.map .int) := by simp only [oints, O.fz, fzs_ints]
theorem col_len (rows : List (List Int)) (m : Nat) : (col rows m).length = rows.length := by simp [col]
theorem rowsD_len (rows : List (List Int)) : (rowsD rows).length = rows.length := by simp [rowsD]
theorem eq_nil {n : Nat} {ds : List D} (h : Nice 64 n (.lst ds)) : eqD (.lst ds) (.lst []) = some (.bl ds.isEmpty) := by
  obtain ⟨p, e, _, _, _⟩ := h.shp
  have e2 : shp (.lst []) = some (.list []) := rfl
  have h3 : pyOf (.lst ds) = some p := (shp_some e).1
  simp only [pyOf] at h3
  obtain ⟨ps, h4, rfl⟩ := Option.map_eq_some_iff.mp h3
  unfold eqD eqB
  split
  · rename_i h _; cases h
  · rename_i h1 h2 _
    simp only [e, e2, Option.bind_some, Option.map_some]
    cases ds with
    | nil => simp only [pyOfs] at h4; cases h4; rfl
    | cons d ds =>
      simp only [pyOfs] at h4
      obtain ⟨q, _, h5⟩ := Option.bind_eq_some_iff.mp h4
      obtain ⟨qs, _, rfl⟩ := Option.map_eq_some_iff.mp h5
      rfl
/-! ### jumps -/
/-- the sum of the first k -/
def ps (xs : List Int) (k : Nat) : Int := (xs.take k).sum
theorem item_range {f : Nat → D} {n i : Nat} {d : D} (h : ((List.range n).map f)[i]? = some d) : i < n ∧ d = f i := by
  rw [List.getElem?_map] at h
  obtain ⟨k, hk, rfl⟩ := Option.map_eq_some_iff.mp h
  obtain ⟨h1, h2⟩ := List.getElem?_eq_some_iff.mp hk
  rw [List.getElem_range] at h2
  rw [List.length_range] at h1
  subst h2
  exact ⟨h1, rfl⟩
def jD : Option Nat → D
  | none => .non
  | some n => .int (n : Nat)
theorem RowsOk.take {w : Nat} {rows : List (List Int)} (h : RowsOk w rows) (s : Nat) : RowsOk w (rows.take s) := fun r m => h r (List.mem_of_mem_take m)
theorem RowsOk.drop {w : Nat} {rows : List (List Int)} (h : RowsOk w rows) (s : Nat) : RowsOk w (rows.drop s) := fun r m => h r (List.mem_of_mem_drop m)
theorem range_succ' {n : Nat} (h : n ≤ 16777215) : rangeD1 [.int ((n : Int) + 1)] = some ((List.range (n + 1)).map fun (k : Nat) => .int (k : Int)) := range_nat (n := n + 1) (by omega)
theorem range_one_add {r : Int} (h0 : 0 ≤ r) (h : r ≤ 16777215) : rangeD1 [.int (1 + r)] = some ((List.range (r.toNat + 1)).map fun (k : Nat) => .int (k : Int)) := by
  obtain ⟨n, rfl⟩ := Int.eq_ofNat_of_zero_le h0
  rw [show (1 : Int) + (n : Int) = ((n + 1 : Nat) : Int) by omega]
  exact range_nat (by omega)
end DL.Sh
set_option Elab.async false
set_option linter.all false
set_option maxRecDepth 100000
set_option maxHeartbeats 4000000
namespace DL.Sh
open PySem PySem.Spec PyProof.Rows L2
/-- one step backwards -/
local macro_rules | `(tactic| walk_at "e1") => `(tactic| first
  | with_reducible refine S_next ?_ | with_reducible refine S_ret ?_ | with_reducible refine S_drop ?_ | with_reducible refine S_if ?_ | with_reducible refine S_for ?_
  | with_reducible refine Ev_C ?_ | with_reducible refine Ev_fz ?_ | with_reducible refine Ev_pur ?_ | with_reducible refine Ev_op2 ?_ | with_reducible refine Ev_top2 ?_ | with_reducible refine Ev_op1 ?_ | with_reducible refine Ev_val ?_
  | with_reducible refine Ev_tand ?_ | with_reducible refine Ev_tor ?_ | with_reducible refine Ev_tnot ?_ | with_reducible refine Ev_and ?_ | with_reducible refine Ev_or ?_ | with_reducible refine Ev_not ?_ | with_reducible refine Ev_if ?_
  | with_reducible refine Ev_anil ?_ | with_reducible refine Ev_acons ?_ | with_reducible refine Ev_eanil ?_ | with_reducible refine Ev_eacons ?_ | with_reducible refine Ev_call ?_ | with_reducible refine Ev_onone ?_ | with_reducible refine Ev_osome ?_
  | with_reducible refine Ev_sl ?_ | with_reducible refine Ev_esl ?_ | with_reducible refine Ev_eop2 ?_ | with_reducible refine Ev_eargs ?_ | with_reducible refine Ev_iseq ?_ | with_reducible refine Ev_iargs ?_ | with_reducible refine Ev_yes ?_
  | with_reducible refine Ev_chain ?_ | with_reducible refine Ev_tchain ?_
  | (with_reducible refine Ev_tbor ?_; simp only [frzE, Option.map_some, Option.map_none, O.fz, fzs, fzs_ints, fzs_purs])
  | (with_reducible refine Ev_bor ?_; simp only [frzE, Option.map_some, Option.map_none, O.fz, fzs, fzs_ints, fzs_purs])
  | ((with_reducible show (if (!true) = true then _ else _)); rw [if_neg (by decide)]) | ((with_reducible show (if (!false) = true then _ else _)); rw [if_pos (by decide)])
  | with_reducible refine Ev_call1 ?_ | ((with_reducible show (if true = true then _ else _)); rw [if_pos rfl]) | ((with_reducible show (if false = true then _ else _)); rw [if_neg Bool.false_ne_true])
  | ((with_reducible show Ev (dVar _) _ _); refine Ev_var rfl ?_)
  | ((with_reducible show Ev (eMove _) _ _); refine Ev_move rfl ?_; (try simp only [List.set_cons_zero, List.set_cons_succ]))
  | ((with_reducible refine S_set ?_))
  | (with_reducible refine S_asg ?_)
  | ((with_reducible refine Ev_tup ?_)) | ((with_reducible refine Ev_lst ?_)) | ((with_reducible refine Ev_elst ?_)) | ((with_reducible refine Ev_etup ?_))
  | ((with_reducible show ∃ _, powD _ _ = some _ ∧ _); refine ⟨_, pow18, ?_⟩) | ((with_reducible show ∃ _, powD _ _ = some _ ∧ _); refine ⟨_, rfl, ?_⟩; simp only [Int.reduceToNat, Int.reducePow]) | ((with_reducible show ∃ _, addD _ _ = some _ ∧ _); refine ⟨_, add_ii _ _, ?_⟩) | ((with_reducible show ∃ _, eqD _ _ = some _ ∧ _); refine ⟨_, eq_dec _ _, ?_⟩) | ((with_reducible show ∃ _, neD _ _ = some _ ∧ _); refine ⟨_, ne_dec _ _, ?_⟩) | ((with_reducible show ∃ _, ltD _ _ = some _ ∧ _); refine ⟨_, lt_dec _ _, ?_⟩) | ((with_reducible show ∃ _, leD _ _ = some _ ∧ _); refine ⟨_, le_dec _ _, ?_⟩) | ((with_reducible show ∃ _, gtD _ _ = some _ ∧ _); refine ⟨_, gt_dec _ _, ?_⟩) | ((with_reducible show ∃ _, geD _ _ = some _ ∧ _); refine ⟨_, ge_dec _ _, ?_⟩) | ((with_reducible show ∃ _, subD _ _ = some _ ∧ _); refine ⟨_, sub_ii _ _, ?_⟩) | ((with_reducible show ∃ _, negD _ = some _ ∧ _); refine ⟨_, neg_i _, ?_⟩)
  | ((with_reducible show ∃ _, mulD _ _ = some _ ∧ _); refine ⟨_, mul_ii (by omega), ?_⟩) | ((with_reducible show ∃ _, modD _ _ = some _ ∧ _); refine ⟨_, mod_ii (by omega), ?_⟩) | ((with_reducible show ∃ _, divD _ _ = some _ ∧ _); refine ⟨_, div_ii (by omega) (by omega), ?_⟩)
  | ((with_reducible show ∃ _, mixE _ _ _ = some _ ∧ _); refine ⟨_, mix_nil rfl, ?_⟩)
  | ((with_reducible show _ < List.length _ ∧ _); refine ⟨of_decide_eq_true rfl, ?_⟩; (try simp only [List.set_cons_zero, List.set_cons_succ, O.fz, fzs_ints, fzs_purs, keepE_cons, keepE_nil, wipeE]))
  | ((with_reducible show (_ < List.length _ ∧ _) ∧ _); refine ⟨of_decide_eq_true rfl, ?_⟩; (try simp only [List.set_cons_zero, List.set_cons_succ, O.fz, fzs_ints, fzs_purs, keepE_cons, keepE_nil, wipeE]))
  | ((with_reducible show List.length _ ≤ 1000 ∧ _); refine ⟨of_decide_eq_true rfl, ?_⟩; (try simp only [List.set_cons_zero, List.set_cons_succ, O.fz, fzs_ints, fzs_purs, keepE_cons, keepE_nil, wipeE]))
  | ((with_reducible show flatO _ = true ∧ _); refine ⟨rfl, ?_⟩)
  | ((with_reducible show Ev (eaLate _ _) _ _); refine Ev_late rfl ?_)
  | with_reducible refine S_setIx ?_
  | ((with_reducible show EvS (sAugIx _ _ _ _) _ _ _ _ _); refine S_augIx rfl ?_)
  | ((with_reducible show EvS (sAug _ _ _) _ _ _ _ _); refine S_aug rfl ?_)
  | ((with_reducible show ∃ a b c, _ = D.int a ∧ _ ∧ _ ∧ _); refine ⟨_, _, _, rfl, rfl, rfl, ?_⟩; simp only [List.set_cons_zero, List.set_cons_succ, Int.toNat_ofNat, Int.reduceToNat])
  | ((with_reducible show ∃ a b c, _ = D.int a ∧ _ ∧ _ ∧ _); refine ⟨_, _, _, rfl, rfl, rfl, ?_⟩)
  | ((with_reducible show ∃ _, ixD _ _ = some _ ∧ _); refine ⟨_, rfl, ?_⟩)
  | ((with_reducible show ∃ _, lenD _ = some _ ∧ _); refine ⟨_, rfl, ?_⟩)
  | ((with_reducible show ∃ _, absD _ = some _ ∧ _); refine ⟨_, rfl, ?_⟩)
  | ((with_reducible show ∃ _, itemsD _ = some _ ∧ _); refine ⟨_, rfl, ?_⟩)
  | ((with_reducible show ∃ _, tupleD _ = some _ ∧ _); refine ⟨_, rfl, ?_⟩)
  | ((with_reducible show ∃ _, listD _ = some _ ∧ _); refine ⟨_, rfl, ?_⟩)
  | ((with_reducible show ∃ _, listL _ = some _ ∧ _); refine ⟨_, rfl, ?_⟩)
  | ((with_reducible show ∃ _, toIntD _ = some _ ∧ _); refine ⟨_, rfl, ?_⟩)
  | ((with_reducible show ∃ _, isD _ _ = some _ ∧ _); refine ⟨_, rfl, ?_⟩)
  | ((with_reducible show ∃ _, isNotD _ _ = some _ ∧ _); refine ⟨_, rfl, ?_⟩)
  | ((with_reducible show ∃ _, takeS _ _ = some _ ∧ _); refine ⟨_, rfl, ?_⟩)
  | ((with_reducible show ∃ _, fName _ _ _ = some _ ∧ _); refine ⟨_, rfl, ?_⟩; (try simp only [List.set_cons_zero, List.set_cons_succ]))
  | ((with_reducible show ∃ _, fTup _ _ _ _ = some _ ∧ _); refine ⟨_, rfl, ?_⟩; (try simp only [List.set_cons_zero, List.set_cons_succ]))
  | ((with_reducible show ∃ _, slD _ _ _ = some _ ∧ _); refine ⟨_, rfl, ?_⟩)
  | ((with_reducible show ∃ _, slL _ _ _ = some _ ∧ _); refine ⟨_, rfl, ?_⟩)
  | ((with_reducible show ∃ _, List.set _ _ _ = some _ ∧ _); refine ⟨_, rfl, ?_⟩)
  | ((with_reducible show ∃ _, getElem? _ _ = some _ ∧ _); refine ⟨_, rfl, ?_⟩)
  | ((with_reducible show ∃ _, rangeD1 [D.int (Nat.cast _)] = some _ ∧ _); refine ⟨_, range_nat (by omega), ?_⟩) | ((with_reducible show ∃ _, rangeD1 _ = some _ ∧ _); refine ⟨_, range_lit (by omega) (by omega), ?_⟩)
  | ((with_reducible show ∃ _, _ = D.int _ ∧ _); refine ⟨_, rfl, ?_⟩)
  | ((with_reducible show ∃ _, maxD [D.int _, D.int _] = some _ ∧ _); refine ⟨_, rfl, ?_⟩) | ((with_reducible show ∃ _, minD [D.int _, D.int _] = some _ ∧ _); refine ⟨_, rfl, ?_⟩)
  | ((with_reducible show ∃ _, truD _ = some _ ∧ _); refine ⟨_, rfl, ?_⟩)
  | ((with_reducible show ∃ _, _ = D.bl _ ∧ _); refine ⟨_, rfl, ?_⟩)
  | ((with_reducible show ∃ _, neD (.str _) (.str _) = some _ ∧ _); refine ⟨_, ne_str _, ?_⟩) | ((with_reducible show ∃ _, eqD (.str _) (.str _) = some _ ∧ _); refine ⟨_, eq_str _, ?_⟩))
local macro_rules | `(tactic| walk_at "e") => `(tactic| repeat walk_at "e1")
local macro_rules | `(tactic| walk_at "s") => `(tactic| repeat (first | with_reducible refine S_seq ?_ | walk_at "e1"))
local macro_rules | `(tactic| walk_at "n") => `(tactic| try simp only [List.set_cons_zero, List.set_cons_succ, O.fz, fzs_ints, fzs_purs, keepE_cons, keepE_nil, wipeE])
local macro_rules | `(tactic| walk_at "e1") => `(tactic| ((with_reducible show Ev (eCall f_law_take _ _) _ _); refine Ev_take rfl (by assumption) ?_; (try simp only [List.set_cons_zero, List.set_cons_succ])))
local macro_rules | `(tactic| walk_at "e1") => `(tactic| ((with_reducible show ∀ _ _, _ → _ → BagOk _ → _); intro r o' h1 h2 hb; (try simp only [List.set_cons_zero, List.set_cons_succ, O.fz])))
local macro_rules | `(tactic| walk_at "e1") => `(tactic| ((with_reducible show _ < _ ∧ _); refine ⟨by omega, ?_⟩))
local macro_rules | `(tactic| walk_at "e1") => `(tactic| ((with_reducible show Ev (eCall f_law_size _ _) _ _); refine Ev_size rfl (by assumption) ?_; (try simp only [List.set_cons_zero, List.set_cons_succ])))
local macro_rules | `(tactic| walk_at "e1") => `(tactic| ((with_reducible show ∃ _, lenD [D.lst (rowsD _)] = some _ ∧ _); refine ⟨_, rfl, ?_⟩; rw [rowsD_len]))
local macro_rules | `(tactic| walk_at "e1") => `(tactic| ((with_reducible show ∃ _, isaD _ = some _ ∧ _); refine ⟨_, rfl, ?_⟩))
local macro_rules | `(tactic| walk_at "e1") => `(tactic| ((with_reducible show ∃ _, rangeD1 [D.int (_ + 1)] = some _ ∧ _); refine ⟨_, range_succ' (by omega), ?_⟩))
local macro_rules | `(tactic| walk_at "e1") => `(tactic| ((with_reducible show ∃ _, rangeD1 [D.int (1 + _)] = some _ ∧ _); refine ⟨_, range_one_add (by omega) (by omega), ?_⟩))
local macro_rules | `(tactic| walk_at "e1") => `(tactic| ((with_reducible show EvS (sFrz _ _) _ _ _ _ _); refine S_frz rfl ?_; (try simp only [List.set_cons_zero, List.set_cons_succ, O.fz, fzs, fzs_ints, fzs_purs])))
/-- a loop over a range -/
theorem loop_rng {n : Nat} {f : Nat → D} {t : TF} {b : MS} {ρ : Env} {N : Env → Prop} {R : O → Env → Prop} (I : Nat → Env → Prop) (h0 : I 0 ρ)
    (hs : ∀ i ρ, i < n → I i ρ → ∃ ρ1, t (f i) ρ = some ρ1 ∧ EvS b ρ1 (I (i + 1)) R N (I (i + 1))) (hd : ∀ ρ, I n ρ → N ρ) :
    ∃ I : Nat → Env → Prop, I 0 ρ ∧ (∀ i d ρ, ((List.range n).map f)[i]? = some d → I i ρ → ∃ ρ1, t d ρ = some ρ1 ∧ EvS b ρ1 (I (i + 1)) R N (I (i + 1))) ∧ ∀ ρ, I ((List.range n).map f).length ρ → N ρ := by
  refine ⟨I, h0, fun i d ρ h k => ?_, fun ρ h => hd ρ ?_⟩
  · obtain ⟨hi, rfl⟩ := item_range h
    exact hs i ρ hi k
  · rwa [List.length_map, List.length_range] at h
/-- a comprehension over a range -/
theorem comp_rng {n : Nat} {f : Nat → D} {W : Env → Env} {tg : TF} {ct : M Bool} {el : M O} {ρw : Env} {Q : List O → Env → Prop} (I : Nat → List O → Env → Prop) (h0 : I 0 [] (ρw))
    (hs : ∀ i acc ρ, i < n → I i acc ρ → ∃ ρ1, tg (f i) ρ = some ρ1 ∧ Ev ct ρ1 fun b ρ2 => if b = true then Ev el ρ2 fun o ρ3 => I (i + 1) (acc ++ [o]) (W ρ3) else I (i + 1) acc (W ρ2))
    (hd : ∀ os ρ2, I n os ρ2 → Q os ρ2) (hn : n ≤ 16777216) :
    ((List.range n).map f).length ≤ 16777216 ∧ ∃ I : Nat → List O → Env → Prop, I 0 [] (ρw) ∧
    (∀ i d acc ρ, ((List.range n).map f)[i]? = some d → acc.length ≤ i → I i acc ρ → ∃ ρ1, tg d ρ = some ρ1 ∧ Ev ct ρ1 fun b ρ2 => if b = true then Ev el ρ2 fun o ρ3 => I (i + 1) (acc ++ [o]) (W ρ3) else I (i + 1) acc (W ρ2)) ∧
    ∀ os ρ2, I ((List.range n).map f).length os ρ2 → Q os ρ2 := by
  refine ⟨by rw [List.length_map, List.length_range]; exact hn, I, h0, fun i d acc ρ h _ k => ?_, fun os ρ h => hd os ρ ?_⟩
  · obtain ⟨hi, rfl⟩ := item_range h
    exact hs i acc ρ hi k
  · rwa [List.length_map, List.length_range] at h
theorem fz_nats (ss : List Nat) : (O.lst (ss.map fun s => O.pur (.int (s : Nat)))).fz = .lst (ss.map fun s => .int (s : Nat)) := by
  rw [show (ss.map fun s => O.pur (.int (s : Nat))) = (ss.map fun s => D.int (s : Nat)).map O.pur by rw [List.map_map]; rfl]
  simp only [O.fz, fzs_purs]
theorem add_lst {a b : List D} (h : a.length + b.length ≤ 16777216) : addL (.lst a) (.lst b) = some (a ++ b) := by
  show (if a.length + b.length ≤ sizeLine then some (a ++ b) else none) = _
  rw [if_pos (by rw [sizeLine_eq]; exact h)]
/-- a comprehension without effects -/
theorem comp_lmap {α : Type} {xs : List α} {f : α → D} {W : Env → Env} {tg : TF} {el : M O} {ρw : Env} {Q : List O → Env → Prop} (g : α → O)
    (hs : ∀ x ∈ xs, ∃ ρ2, tg (f x) (ρw) = some ρ2 ∧ Ev el ρ2 fun o ρ3 => o = g x ∧ W ρ3 = ρw)
    (hd : Q (xs.map g) (ρw)) (hn : xs.length ≤ 16777216) :
    (xs.map f).length ≤ 16777216 ∧ ∃ I : Nat → List O → Env → Prop, I 0 [] (ρw) ∧
    (∀ i d acc ρ, (xs.map f)[i]? = some d → acc.length ≤ i → I i acc ρ → ∃ ρ1, tg d ρ = some ρ1 ∧ Ev tYesM ρ1 fun b ρ2 => if b = true then Ev el ρ2 fun o ρ3 => I (i + 1) (acc ++ [o]) (W ρ3) else I (i + 1) acc (W ρ2)) ∧
    ∀ os ρ2, I (xs.map f).length os ρ2 → Q os ρ2 := by
  refine ⟨by rw [List.length_map]; exact hn, fun i acc ρ => acc = (xs.map g).take i ∧ ρ = ρw, ⟨rfl, rfl⟩, ?_, ?_⟩
  · rintro i d acc _ hd' _ ⟨rfl, rfl⟩
    rw [List.getElem?_map] at hd'
    obtain ⟨x, hx, rfl⟩ := Option.map_eq_some_iff.mp hd'
    obtain ⟨ρ2, e, h⟩ := hs x (List.mem_of_getElem? hx)
    refine ⟨ρ2, e, Ev_yes ?_⟩
    rw [if_pos rfl]
    refine h.mono fun o ρ3 ⟨h1, h2⟩ => ⟨?_, h2⟩
    rw [List.take_add_one, List.getElem?_map, hx, h1]
    rfl
  · rintro os ρ2 ⟨rfl, rfl⟩
    rw [List.length_map, List.take_of_length_le (by rw [List.length_map]; omega)]
    exact hd
/-- the oldest entry that is kept, by its own going -/
def oldGo (xs : List Int) (lim : Int) (s : Nat) : Nat → Nat
  | 0 => 0
  | f + 1 => if ps xs s - ps xs f ≤ lim then oldGo xs lim s f else f + 1
def oldk (xs : List Int) (lim : Int) (s : Nat) : Nat := oldGo xs lim s s
theorem add_ll {a b : List D} (h : a.length + b.length ≤ 16777216) : addD (.lst a) (.lst b) = some (.lst (a ++ b)) := by
  show (if a.length + b.length ≤ sizeLine then some (D.lst (a ++ b)) else none) = _
  rw [if_pos (by rw [sizeLine_eq]; exact h)]
theorem RowsOk.append {w : Nat} {a b : List (List Int)} (h1 : RowsOk w a) (h2 : RowsOk w b) : RowsOk w (a ++ b) := fun r m => (List.mem_append.mp m).elim (h1 r) (h2 r)
/-! tiers, junctions, departures -/
def tiersD (ts : List (Nat × Int)) : List D := ts.map fun t => .tup [.int (t.1 : Nat), .int t.2]
def TiersOk (w : Nat) (b : Int) (ts : List (Nat × Int)) : Prop := ∀ t ∈ ts, t.1 < w ∧ 0 ≤ t.2 ∧ t.2 ≤ b
theorem TiersOk.snoc {w : Nat} {b : Int} {ts : List (Nat × Int)} {t : Nat × Int} (h : TiersOk w b ts) (k : t.1 < w ∧ 0 ≤ t.2 ∧ t.2 ≤ b) : TiersOk w b (ts ++ [t]) := fun x hx => by
  rcases List.mem_append.mp hx with hx | hx
  · exact h x hx
  · rw [List.mem_singleton.mp hx]; exact k
/-! the plain chain -/
/-- the oldest entries of the tiers, by additions -/
def fst (rows : List (List Int)) : List (Nat × Int) → Nat → List Nat
  | [], _ => []
  | t :: ts, s => oldk (col rows t.1) t.2 s :: fst rows ts (oldk (col rows t.1) t.2 s)
end DL.Sh
set_option Elab.async false
set_option linter.all false
set_option maxRecDepth 100000
set_option maxHeartbeats 4000000
namespace DL.Sh
open PySem PySem.Spec PyProof.Rows L2
/-- one step backwards -/
local macro_rules | `(tactic| walk_at "e1") => `(tactic| first
  | with_reducible refine S_next ?_ | with_reducible refine S_ret ?_ | with_reducible refine S_drop ?_ | with_reducible refine S_if ?_ | with_reducible refine S_for ?_
  | with_reducible refine Ev_C ?_ | with_reducible refine Ev_fz ?_ | with_reducible refine Ev_pur ?_ | with_reducible refine Ev_op2 ?_ | with_reducible refine Ev_top2 ?_ | with_reducible refine Ev_op1 ?_ | with_reducible refine Ev_val ?_
  | with_reducible refine Ev_tand ?_ | with_reducible refine Ev_tor ?_ | with_reducible refine Ev_tnot ?_ | with_reducible refine Ev_and ?_ | with_reducible refine Ev_or ?_ | with_reducible refine Ev_not ?_ | with_reducible refine Ev_if ?_
  | with_reducible refine Ev_anil ?_ | with_reducible refine Ev_acons ?_ | with_reducible refine Ev_eanil ?_ | with_reducible refine Ev_eacons ?_ | with_reducible refine Ev_call ?_ | with_reducible refine Ev_onone ?_ | with_reducible refine Ev_osome ?_
  | with_reducible refine Ev_sl ?_ | with_reducible refine Ev_esl ?_ | with_reducible refine Ev_eop2 ?_ | with_reducible refine Ev_eargs ?_ | with_reducible refine Ev_iseq ?_ | with_reducible refine Ev_iargs ?_ | with_reducible refine Ev_yes ?_
  | with_reducible refine Ev_chain ?_ | with_reducible refine Ev_tchain ?_
  | (with_reducible refine Ev_tbor ?_; simp only [frzE, Option.map_some, Option.map_none, O.fz, fzs, fzs_ints, fzs_purs])
  | (with_reducible refine Ev_bor ?_; simp only [frzE, Option.map_some, Option.map_none, O.fz, fzs, fzs_ints, fzs_purs])
  | ((with_reducible show (if (!true) = true then _ else _)); rw [if_neg (by decide)]) | ((with_reducible show (if (!false) = true then _ else _)); rw [if_pos (by decide)])
  | with_reducible refine Ev_call1 ?_ | ((with_reducible show (if true = true then _ else _)); rw [if_pos rfl]) | ((with_reducible show (if false = true then _ else _)); rw [if_neg Bool.false_ne_true])
  | ((with_reducible show Ev (dVar _) _ _); refine Ev_var rfl ?_)
  | ((with_reducible show Ev (eMove _) _ _); refine Ev_move rfl ?_; (try simp only [List.set_cons_zero, List.set_cons_succ]))
  | ((with_reducible refine S_set ?_))
  | (with_reducible refine S_asg ?_)
  | ((with_reducible refine Ev_tup ?_)) | ((with_reducible refine Ev_lst ?_)) | ((with_reducible refine Ev_elst ?_)) | ((with_reducible refine Ev_etup ?_))
  | ((with_reducible show ∃ _, powD _ _ = some _ ∧ _); refine ⟨_, pow18, ?_⟩) | ((with_reducible show ∃ _, powD _ _ = some _ ∧ _); refine ⟨_, rfl, ?_⟩; simp only [Int.reduceToNat, Int.reducePow]) | ((with_reducible show ∃ _, addD _ _ = some _ ∧ _); refine ⟨_, add_ii _ _, ?_⟩) | ((with_reducible show ∃ _, eqD _ _ = some _ ∧ _); refine ⟨_, eq_dec _ _, ?_⟩) | ((with_reducible show ∃ _, neD _ _ = some _ ∧ _); refine ⟨_, ne_dec _ _, ?_⟩) | ((with_reducible show ∃ _, ltD _ _ = some _ ∧ _); refine ⟨_, lt_dec _ _, ?_⟩) | ((with_reducible show ∃ _, leD _ _ = some _ ∧ _); refine ⟨_, le_dec _ _, ?_⟩) | ((with_reducible show ∃ _, gtD _ _ = some _ ∧ _); refine ⟨_, gt_dec _ _, ?_⟩) | ((with_reducible show ∃ _, geD _ _ = some _ ∧ _); refine ⟨_, ge_dec _ _, ?_⟩) | ((with_reducible show ∃ _, subD _ _ = some _ ∧ _); refine ⟨_, sub_ii _ _, ?_⟩) | ((with_reducible show ∃ _, negD _ = some _ ∧ _); refine ⟨_, neg_i _, ?_⟩)
  | ((with_reducible show ∃ _, mulD _ _ = some _ ∧ _); refine ⟨_, mul_ii (by omega), ?_⟩) | ((with_reducible show ∃ _, modD _ _ = some _ ∧ _); refine ⟨_, mod_ii (by omega), ?_⟩) | ((with_reducible show ∃ _, divD _ _ = some _ ∧ _); refine ⟨_, div_ii (by omega) (by omega), ?_⟩)
  | ((with_reducible show ∃ _, mixE _ _ _ = some _ ∧ _); refine ⟨_, mix_nil rfl, ?_⟩)
  | ((with_reducible show _ < List.length _ ∧ _); refine ⟨of_decide_eq_true rfl, ?_⟩; (try simp only [List.set_cons_zero, List.set_cons_succ, O.fz, fzs_ints, fzs_purs, keepE_cons, keepE_nil, wipeE]))
  | ((with_reducible show (_ < List.length _ ∧ _) ∧ _); refine ⟨of_decide_eq_true rfl, ?_⟩; (try simp only [List.set_cons_zero, List.set_cons_succ, O.fz, fzs_ints, fzs_purs, keepE_cons, keepE_nil, wipeE]))
  | ((with_reducible show List.length _ ≤ 1000 ∧ _); refine ⟨of_decide_eq_true rfl, ?_⟩; (try simp only [List.set_cons_zero, List.set_cons_succ, O.fz, fzs_ints, fzs_purs, keepE_cons, keepE_nil, wipeE]))
  | ((with_reducible show flatO _ = true ∧ _); refine ⟨rfl, ?_⟩)
  | ((with_reducible show Ev (eaLate _ _) _ _); refine Ev_late rfl ?_)
  | with_reducible refine S_setIx ?_
  | ((with_reducible show EvS (sAugIx _ _ _ _) _ _ _ _ _); refine S_augIx rfl ?_)
  | ((with_reducible show EvS (sAug _ _ _) _ _ _ _ _); refine S_aug rfl ?_)
  | ((with_reducible show ∃ a b c, _ = D.int a ∧ _ ∧ _ ∧ _); refine ⟨_, _, _, rfl, rfl, rfl, ?_⟩; simp only [List.set_cons_zero, List.set_cons_succ, Int.toNat_ofNat, Int.reduceToNat])
  | ((with_reducible show ∃ a b c, _ = D.int a ∧ _ ∧ _ ∧ _); refine ⟨_, _, _, rfl, rfl, rfl, ?_⟩)
  | ((with_reducible show ∃ _, ixD _ _ = some _ ∧ _); refine ⟨_, rfl, ?_⟩)
  | ((with_reducible show ∃ _, lenD _ = some _ ∧ _); refine ⟨_, rfl, ?_⟩)
  | ((with_reducible show ∃ _, absD _ = some _ ∧ _); refine ⟨_, rfl, ?_⟩)
  | ((with_reducible show ∃ _, itemsD _ = some _ ∧ _); refine ⟨_, rfl, ?_⟩)
  | ((with_reducible show ∃ _, tupleD _ = some _ ∧ _); refine ⟨_, rfl, ?_⟩)
  | ((with_reducible show ∃ _, listD _ = some _ ∧ _); refine ⟨_, rfl, ?_⟩)
  | ((with_reducible show ∃ _, listL _ = some _ ∧ _); refine ⟨_, rfl, ?_⟩)
  | ((with_reducible show ∃ _, toIntD _ = some _ ∧ _); refine ⟨_, rfl, ?_⟩)
  | ((with_reducible show ∃ _, isD _ _ = some _ ∧ _); refine ⟨_, rfl, ?_⟩)
  | ((with_reducible show ∃ _, isNotD _ _ = some _ ∧ _); refine ⟨_, rfl, ?_⟩)
  | ((with_reducible show ∃ _, takeS _ _ = some _ ∧ _); refine ⟨_, rfl, ?_⟩)
  | ((with_reducible show ∃ _, fName _ _ _ = some _ ∧ _); refine ⟨_, rfl, ?_⟩; (try simp only [List.set_cons_zero, List.set_cons_succ]))
  | ((with_reducible show ∃ _, fTup _ _ _ _ = some _ ∧ _); refine ⟨_, rfl, ?_⟩; (try simp only [List.set_cons_zero, List.set_cons_succ]))
  | ((with_reducible show ∃ _, slD _ _ _ = some _ ∧ _); refine ⟨_, rfl, ?_⟩)
  | ((with_reducible show ∃ _, slL _ _ _ = some _ ∧ _); refine ⟨_, rfl, ?_⟩)
  | ((with_reducible show ∃ _, List.set _ _ _ = some _ ∧ _); refine ⟨_, rfl, ?_⟩)
  | ((with_reducible show ∃ _, getElem? _ _ = some _ ∧ _); refine ⟨_, rfl, ?_⟩)
  | ((with_reducible show ∃ _, rangeD1 [D.int (Nat.cast _)] = some _ ∧ _); refine ⟨_, range_nat (by omega), ?_⟩) | ((with_reducible show ∃ _, rangeD1 _ = some _ ∧ _); refine ⟨_, range_lit (by omega) (by omega), ?_⟩)
  | ((with_reducible show ∃ _, _ = D.int _ ∧ _); refine ⟨_, rfl, ?_⟩)
  | ((with_reducible show ∃ _, maxD [D.int _, D.int _] = some _ ∧ _); refine ⟨_, rfl, ?_⟩) | ((with_reducible show ∃ _, minD [D.int _, D.int _] = some _ ∧ _); refine ⟨_, rfl, ?_⟩)
  | ((with_reducible show ∃ _, truD _ = some _ ∧ _); refine ⟨_, rfl, ?_⟩)
  | ((with_reducible show ∃ _, _ = D.bl _ ∧ _); refine ⟨_, rfl, ?_⟩)
  | ((with_reducible show ∃ _, neD (.str _) (.str _) = some _ ∧ _); refine ⟨_, ne_str _, ?_⟩) | ((with_reducible show ∃ _, eqD (.str _) (.str _) = some _ ∧ _); refine ⟨_, eq_str _, ?_⟩))
local macro_rules | `(tactic| walk_at "e") => `(tactic| repeat walk_at "e1")
local macro_rules | `(tactic| walk_at "s") => `(tactic| repeat (first | with_reducible refine S_seq ?_ | walk_at "e1"))
local macro_rules | `(tactic| walk_at "n") => `(tactic| try simp only [List.set_cons_zero, List.set_cons_succ, O.fz, fzs_ints, fzs_purs, keepE_cons, keepE_nil, wipeE])
local macro_rules | `(tactic| walk_at "e1") => `(tactic| ((with_reducible show Ev (eCall f_law_take _ _) _ _); refine Ev_take rfl (by assumption) ?_; (try simp only [List.set_cons_zero, List.set_cons_succ])))
local macro_rules | `(tactic| walk_at "e1") => `(tactic| ((with_reducible show ∀ _ _, _ → _ → BagOk _ → _); intro r o' h1 h2 hb; (try simp only [List.set_cons_zero, List.set_cons_succ, O.fz])))
local macro_rules | `(tactic| walk_at "e1") => `(tactic| ((with_reducible show _ < _ ∧ _); refine ⟨by omega, ?_⟩))
local macro_rules | `(tactic| walk_at "e1") => `(tactic| ((with_reducible show Ev (eCall f_law_size _ _) _ _); refine Ev_size rfl (by assumption) ?_; (try simp only [List.set_cons_zero, List.set_cons_succ])))
local macro_rules | `(tactic| walk_at "e1") => `(tactic| ((with_reducible show ∃ _, lenD [D.lst (rowsD _)] = some _ ∧ _); refine ⟨_, rfl, ?_⟩; rw [rowsD_len]))
local macro_rules | `(tactic| walk_at "e1") => `(tactic| ((with_reducible show ∃ _, isaD _ = some _ ∧ _); refine ⟨_, rfl, ?_⟩))
local macro_rules | `(tactic| walk_at "e1") => `(tactic| ((with_reducible show ∃ _, rangeD1 [D.int (_ + 1)] = some _ ∧ _); refine ⟨_, range_succ' (by omega), ?_⟩))
local macro_rules | `(tactic| walk_at "e1") => `(tactic| ((with_reducible show ∃ _, rangeD1 [D.int (1 + _)] = some _ ∧ _); refine ⟨_, range_one_add (by omega) (by omega), ?_⟩))
local macro_rules | `(tactic| walk_at "e1") => `(tactic| ((with_reducible show EvS (sFrz _ _) _ _ _ _ _); refine S_frz rfl ?_; (try simp only [List.set_cons_zero, List.set_cons_succ, O.fz, fzs, fzs_ints, fzs_purs])))
theorem S_frz {i : Nat} {f : MS} {ρ : Env} {N : Env → Prop} {R : O → Env → Prop} {B C : Env → Prop} {o : O} (h0 : ρ[i]? = some (some o)) (h : EvS f (ρ.set i (some (.pur o.fz))) N R B C) : EvS (sFrz i f) ρ N R B C := by
  obtain ⟨out, e, p⟩ := h
  exact ⟨out, by unfold sFrz; rw [h0]; exact e, p⟩
def nats (ns : List Nat) : List O := ns.map fun f => .pur (.int (f : Nat))
theorem nats_fz (ns : List Nat) : (O.lst (nats ns)).fz = .lst (ns.map fun f => .int (f : Nat)) := fz_nats ns
theorem fzs_nats (ns : List Nat) : fzs (nats ns) = ns.map fun f => D.int (f : Nat) := by
  have := nats_fz ns
  simpa only [O.fz, D.lst.injEq] using this
theorem mul_nL {n : Nat} (h : n ≤ 16777216) (d : D) : mulL (.lst [d]) (.int (n : Int)) = some (List.replicate n d) := by
  have e : (-(2 ^ 63) ≤ (n : Int) ∧ (n : Int) < 2 ^ 63 ∧ [d].length * (n : Int).toNat ≤ sizeLine) := ⟨by omega, by omega, by rw [Int.toNat_natCast, sizeLine_eq]; simpa using h⟩
  have e2 : (List.replicate (n : Int).toNat [d]).flatten = List.replicate n d := by rw [Int.toNat_natCast, List.flatten_replicate_singleton]
  rw [← e2]
  simp only [mulL, if_pos e]
/-! departures, contents -/
theorem TiersOk.mono {w : Nat} {b b' : Int} {ts : List (Nat × Int)} (h : TiersOk w b ts) (hb : b ≤ b') : TiersOk w b' ts := fun t ht => by
  obtain ⟨h1, h2, h3⟩ := h t ht
  exact ⟨h1, h2, by omega⟩
end DL.Sh
set_option Elab.async false
set_option linter.all false
set_option maxRecDepth 100000
set_option maxHeartbeats 4000000
namespace DL.Sh
open PySem PySem.Spec PyProof.Rows L2
/-- one step backwards -/
local macro_rules | `(tactic| walk_at "e1") => `(tactic| first
  | with_reducible refine S_next ?_ | with_reducible refine S_ret ?_ | with_reducible refine S_drop ?_ | with_reducible refine S_if ?_ | with_reducible refine S_for ?_
  | with_reducible refine Ev_C ?_ | with_reducible refine Ev_fz ?_ | with_reducible refine Ev_pur ?_ | with_reducible refine Ev_op2 ?_ | with_reducible refine Ev_top2 ?_ | with_reducible refine Ev_op1 ?_ | with_reducible refine Ev_val ?_
  | with_reducible refine Ev_tand ?_ | with_reducible refine Ev_tor ?_ | with_reducible refine Ev_tnot ?_ | with_reducible refine Ev_and ?_ | with_reducible refine Ev_or ?_ | with_reducible refine Ev_not ?_ | with_reducible refine Ev_if ?_
  | with_reducible refine Ev_anil ?_ | with_reducible refine Ev_acons ?_ | with_reducible refine Ev_eanil ?_ | with_reducible refine Ev_eacons ?_ | with_reducible refine Ev_call ?_ | with_reducible refine Ev_onone ?_ | with_reducible refine Ev_osome ?_
  | with_reducible refine Ev_sl ?_ | with_reducible refine Ev_esl ?_ | with_reducible refine Ev_eop2 ?_ | with_reducible refine Ev_eargs ?_ | with_reducible refine Ev_iseq ?_ | with_reducible refine Ev_iargs ?_ | with_reducible refine Ev_yes ?_
  | with_reducible refine Ev_chain ?_ | with_reducible refine Ev_tchain ?_
  | (with_reducible refine Ev_tbor ?_; simp only [frzE, Option.map_some, Option.map_none, O.fz, fzs, fzs_ints, fzs_purs])
  | (with_reducible refine Ev_bor ?_; simp only [frzE, Option.map_some, Option.map_none, O.fz, fzs, fzs_ints, fzs_purs])
  | ((with_reducible show (if (!true) = true then _ else _)); rw [if_neg (by decide)]) | ((with_reducible show (if (!false) = true then _ else _)); rw [if_pos (by decide)])
  | with_reducible refine Ev_call1 ?_ | ((with_reducible show (if true = true then _ else _)); rw [if_pos rfl]) | ((with_reducible show (if false = true then _ else _)); rw [if_neg Bool.false_ne_true])
  | ((with_reducible show Ev (dVar _) _ _); refine Ev_var rfl ?_)
  | ((with_reducible show Ev (eMove _) _ _); refine Ev_move rfl ?_; (try simp only [List.set_cons_zero, List.set_cons_succ]))
  | ((with_reducible refine S_set ?_))
  | (with_reducible refine S_asg ?_)
  | ((with_reducible refine Ev_tup ?_)) | ((with_reducible refine Ev_lst ?_)) | ((with_reducible refine Ev_elst ?_)) | ((with_reducible refine Ev_etup ?_))
  | ((with_reducible show ∃ _, powD _ _ = some _ ∧ _); refine ⟨_, pow18, ?_⟩) | ((with_reducible show ∃ _, powD _ _ = some _ ∧ _); refine ⟨_, rfl, ?_⟩; simp only [Int.reduceToNat, Int.reducePow]) | ((with_reducible show ∃ _, addD _ _ = some _ ∧ _); refine ⟨_, add_ii _ _, ?_⟩) | ((with_reducible show ∃ _, eqD _ _ = some _ ∧ _); refine ⟨_, eq_dec _ _, ?_⟩) | ((with_reducible show ∃ _, neD _ _ = some _ ∧ _); refine ⟨_, ne_dec _ _, ?_⟩) | ((with_reducible show ∃ _, ltD _ _ = some _ ∧ _); refine ⟨_, lt_dec _ _, ?_⟩) | ((with_reducible show ∃ _, leD _ _ = some _ ∧ _); refine ⟨_, le_dec _ _, ?_⟩) | ((with_reducible show ∃ _, gtD _ _ = some _ ∧ _); refine ⟨_, gt_dec _ _, ?_⟩) | ((with_reducible show ∃ _, geD _ _ = some _ ∧ _); refine ⟨_, ge_dec _ _, ?_⟩) | ((with_reducible show ∃ _, subD _ _ = some _ ∧ _); refine ⟨_, sub_ii _ _, ?_⟩) | ((with_reducible show ∃ _, negD _ = some _ ∧ _); refine ⟨_, neg_i _, ?_⟩)
  | ((with_reducible show ∃ _, mulD _ _ = some _ ∧ _); refine ⟨_, mul_ii (by omega), ?_⟩) | ((with_reducible show ∃ _, modD _ _ = some _ ∧ _); refine ⟨_, mod_ii (by omega), ?_⟩) | ((with_reducible show ∃ _, divD _ _ = some _ ∧ _); refine ⟨_, div_ii (by omega) (by omega), ?_⟩)
  | ((with_reducible show ∃ _, mixE _ _ _ = some _ ∧ _); refine ⟨_, mix_nil rfl, ?_⟩)
  | ((with_reducible show _ < List.length _ ∧ _); refine ⟨of_decide_eq_true rfl, ?_⟩; (try simp only [List.set_cons_zero, List.set_cons_succ, O.fz, fzs_ints, fzs_purs, keepE_cons, keepE_nil, wipeE]))
  | ((with_reducible show (_ < List.length _ ∧ _) ∧ _); refine ⟨of_decide_eq_true rfl, ?_⟩; (try simp only [List.set_cons_zero, List.set_cons_succ, O.fz, fzs_ints, fzs_purs, keepE_cons, keepE_nil, wipeE]))
  | ((with_reducible show List.length _ ≤ 1000 ∧ _); refine ⟨of_decide_eq_true rfl, ?_⟩; (try simp only [List.set_cons_zero, List.set_cons_succ, O.fz, fzs_ints, fzs_purs, keepE_cons, keepE_nil, wipeE]))
  | ((with_reducible show flatO _ = true ∧ _); refine ⟨rfl, ?_⟩)
  | ((with_reducible show Ev (eaLate _ _) _ _); refine Ev_late rfl ?_)
  | with_reducible refine S_setIx ?_
  | ((with_reducible show EvS (sAugIx _ _ _ _) _ _ _ _ _); refine S_augIx rfl ?_)
  | ((with_reducible show EvS (sAug _ _ _) _ _ _ _ _); refine S_aug rfl ?_)
  | ((with_reducible show ∃ a b c, _ = D.int a ∧ _ ∧ _ ∧ _); refine ⟨_, _, _, rfl, rfl, rfl, ?_⟩; simp only [List.set_cons_zero, List.set_cons_succ, Int.toNat_ofNat, Int.reduceToNat])
  | ((with_reducible show ∃ a b c, _ = D.int a ∧ _ ∧ _ ∧ _); refine ⟨_, _, _, rfl, rfl, rfl, ?_⟩)
  | ((with_reducible show ∃ _, ixD _ _ = some _ ∧ _); refine ⟨_, rfl, ?_⟩)
  | ((with_reducible show ∃ _, lenD _ = some _ ∧ _); refine ⟨_, rfl, ?_⟩)
  | ((with_reducible show ∃ _, absD _ = some _ ∧ _); refine ⟨_, rfl, ?_⟩)
  | ((with_reducible show ∃ _, itemsD _ = some _ ∧ _); refine ⟨_, rfl, ?_⟩)
  | ((with_reducible show ∃ _, tupleD _ = some _ ∧ _); refine ⟨_, rfl, ?_⟩)
  | ((with_reducible show ∃ _, listD _ = some _ ∧ _); refine ⟨_, rfl, ?_⟩)
  | ((with_reducible show ∃ _, listL _ = some _ ∧ _); refine ⟨_, rfl, ?_⟩)
  | ((with_reducible show ∃ _, toIntD _ = some _ ∧ _); refine ⟨_, rfl, ?_⟩)
  | ((with_reducible show ∃ _, isD _ _ = some _ ∧ _); refine ⟨_, rfl, ?_⟩)
  | ((with_reducible show ∃ _, isNotD _ _ = some _ ∧ _); refine ⟨_, rfl, ?_⟩)
  | ((with_reducible show ∃ _, takeS _ _ = some _ ∧ _); refine ⟨_, rfl, ?_⟩)
  | ((with_reducible show ∃ _, fName _ _ _ = some _ ∧ _); refine ⟨_, rfl, ?_⟩; (try simp only [List.set_cons_zero, List.set_cons_succ]))
  | ((with_reducible show ∃ _, fTup _ _ _ _ = some _ ∧ _); refine ⟨_, rfl, ?_⟩; (try simp only [List.set_cons_zero, List.set_cons_succ]))
  | ((with_reducible show ∃ _, slD _ _ _ = some _ ∧ _); refine ⟨_, rfl, ?_⟩)
  | ((with_reducible show ∃ _, slL _ _ _ = some _ ∧ _); refine ⟨_, rfl, ?_⟩)
  | ((with_reducible show ∃ _, List.set _ _ _ = some _ ∧ _); refine ⟨_, rfl, ?_⟩)
  | ((with_reducible show ∃ _, getElem? _ _ = some _ ∧ _); refine ⟨_, rfl, ?_⟩)
  | ((with_reducible show ∃ _, rangeD1 [D.int (Nat.cast _)] = some _ ∧ _); refine ⟨_, range_nat (by omega), ?_⟩) | ((with_reducible show ∃ _, rangeD1 _ = some _ ∧ _); refine ⟨_, range_lit (by omega) (by omega), ?_⟩)
  | ((with_reducible show ∃ _, _ = D.int _ ∧ _); refine ⟨_, rfl, ?_⟩)
  | ((with_reducible show ∃ _, maxD [D.int _, D.int _] = some _ ∧ _); refine ⟨_, rfl, ?_⟩) | ((with_reducible show ∃ _, minD [D.int _, D.int _] = some _ ∧ _); refine ⟨_, rfl, ?_⟩)
  | ((with_reducible show ∃ _, truD _ = some _ ∧ _); refine ⟨_, rfl, ?_⟩)
  | ((with_reducible show ∃ _, _ = D.bl _ ∧ _); refine ⟨_, rfl, ?_⟩)
  | ((with_reducible show ∃ _, neD (.str _) (.str _) = some _ ∧ _); refine ⟨_, ne_str _, ?_⟩) | ((with_reducible show ∃ _, eqD (.str _) (.str _) = some _ ∧ _); refine ⟨_, eq_str _, ?_⟩))
local macro_rules | `(tactic| walk_at "e") => `(tactic| repeat walk_at "e1")
local macro_rules | `(tactic| walk_at "s") => `(tactic| repeat (first | with_reducible refine S_seq ?_ | walk_at "e1"))
local macro_rules | `(tactic| walk_at "n") => `(tactic| try simp only [List.set_cons_zero, List.set_cons_succ, O.fz, fzs_ints, fzs_purs, keepE_cons, keepE_nil, wipeE])
local macro_rules | `(tactic| walk_at "e1") => `(tactic| ((with_reducible show Ev (eCall f_law_take _ _) _ _); refine Ev_take rfl (by assumption) ?_; (try simp only [List.set_cons_zero, List.set_cons_succ])))
local macro_rules | `(tactic| walk_at "e1") => `(tactic| ((with_reducible show ∀ _ _, _ → _ → BagOk _ → _); intro r o' h1 h2 hb; (try simp only [List.set_cons_zero, List.set_cons_succ, O.fz])))
local macro_rules | `(tactic| walk_at "e1") => `(tactic| ((with_reducible show _ < _ ∧ _); refine ⟨by omega, ?_⟩))
local macro_rules | `(tactic| walk_at "e1") => `(tactic| ((with_reducible show Ev (eCall f_law_size _ _) _ _); refine Ev_size rfl (by assumption) ?_; (try simp only [List.set_cons_zero, List.set_cons_succ])))
local macro_rules | `(tactic| walk_at "e1") => `(tactic| ((with_reducible show ∃ _, lenD [D.lst (rowsD _)] = some _ ∧ _); refine ⟨_, rfl, ?_⟩; rw [rowsD_len]))
local macro_rules | `(tactic| walk_at "e1") => `(tactic| ((with_reducible show ∃ _, isaD _ = some _ ∧ _); refine ⟨_, rfl, ?_⟩))
local macro_rules | `(tactic| walk_at "e1") => `(tactic| ((with_reducible show ∃ _, rangeD1 [D.int (_ + 1)] = some _ ∧ _); refine ⟨_, range_succ' (by omega), ?_⟩))
local macro_rules | `(tactic| walk_at "e1") => `(tactic| ((with_reducible show ∃ _, rangeD1 [D.int (1 + _)] = some _ ∧ _); refine ⟨_, range_one_add (by omega) (by omega), ?_⟩))
local macro_rules | `(tactic| walk_at "e1") => `(tactic| ((with_reducible show EvS (sFrz _ _) _ _ _ _ _); refine S_frz rfl ?_; (try simp only [List.set_cons_zero, List.set_cons_succ, O.fz, fzs, fzs_ints, fzs_purs])))
theorem bsOf_map (bs : List Bool) : bsOf (bs.map .bl) = some bs := by
  unfold bsOf
  induction bs with
  | nil => rfl
  | cons n ns ih => simp only [List.map_cons, List.mapM_cons, asB, ih]; rfl
def tl (ts : List (Nat × Int)) (i : Nat) : Int := (ts.getD i (0, 0)).2
end DL.Sh
set_option Elab.async false
set_option linter.all false
set_option maxRecDepth 100000
set_option maxHeartbeats 4000000
namespace DL.Sh
open PySem PySem.Spec PyProof.Rows L2
/-- one step backwards -/
local macro_rules | `(tactic| walk_at "e1") => `(tactic| first
  | with_reducible refine S_next ?_ | with_reducible refine S_ret ?_ | with_reducible refine S_drop ?_ | with_reducible refine S_if ?_ | with_reducible refine S_for ?_
  | with_reducible refine Ev_C ?_ | with_reducible refine Ev_fz ?_ | with_reducible refine Ev_pur ?_ | with_reducible refine Ev_op2 ?_ | with_reducible refine Ev_top2 ?_ | with_reducible refine Ev_op1 ?_ | with_reducible refine Ev_val ?_
  | with_reducible refine Ev_tand ?_ | with_reducible refine Ev_tor ?_ | with_reducible refine Ev_tnot ?_ | with_reducible refine Ev_and ?_ | with_reducible refine Ev_or ?_ | with_reducible refine Ev_not ?_ | with_reducible refine Ev_if ?_
  | with_reducible refine Ev_anil ?_ | with_reducible refine Ev_acons ?_ | with_reducible refine Ev_eanil ?_ | with_reducible refine Ev_eacons ?_ | with_reducible refine Ev_call ?_ | with_reducible refine Ev_onone ?_ | with_reducible refine Ev_osome ?_
  | with_reducible refine Ev_sl ?_ | with_reducible refine Ev_esl ?_ | with_reducible refine Ev_eop2 ?_ | with_reducible refine Ev_eargs ?_ | with_reducible refine Ev_iseq ?_ | with_reducible refine Ev_iargs ?_ | with_reducible refine Ev_yes ?_
  | with_reducible refine Ev_chain ?_ | with_reducible refine Ev_tchain ?_
  | (with_reducible refine Ev_tbor ?_; simp only [frzE, Option.map_some, Option.map_none, O.fz, fzs, fzs_ints, fzs_purs])
  | (with_reducible refine Ev_bor ?_; simp only [frzE, Option.map_some, Option.map_none, O.fz, fzs, fzs_ints, fzs_purs])
  | ((with_reducible show (if (!true) = true then _ else _)); rw [if_neg (by decide)]) | ((with_reducible show (if (!false) = true then _ else _)); rw [if_pos (by decide)])
  | with_reducible refine Ev_call1 ?_ | ((with_reducible show (if true = true then _ else _)); rw [if_pos rfl]) | ((with_reducible show (if false = true then _ else _)); rw [if_neg Bool.false_ne_true])
  | ((with_reducible show Ev (dVar _) _ _); refine Ev_var rfl ?_)
  | ((with_reducible show Ev (eMove _) _ _); refine Ev_move rfl ?_; (try simp only [List.set_cons_zero, List.set_cons_succ]))
  | ((with_reducible refine S_set ?_))
  | (with_reducible refine S_asg ?_)
  | ((with_reducible refine Ev_tup ?_)) | ((with_reducible refine Ev_lst ?_)) | ((with_reducible refine Ev_elst ?_)) | ((with_reducible refine Ev_etup ?_))
  | ((with_reducible show ∃ _, powD _ _ = some _ ∧ _); refine ⟨_, pow18, ?_⟩) | ((with_reducible show ∃ _, powD _ _ = some _ ∧ _); refine ⟨_, rfl, ?_⟩; simp only [Int.reduceToNat, Int.reducePow]) | ((with_reducible show ∃ _, addD _ _ = some _ ∧ _); refine ⟨_, add_ii _ _, ?_⟩) | ((with_reducible show ∃ _, eqD _ _ = some _ ∧ _); refine ⟨_, eq_dec _ _, ?_⟩) | ((with_reducible show ∃ _, neD _ _ = some _ ∧ _); refine ⟨_, ne_dec _ _, ?_⟩) | ((with_reducible show ∃ _, ltD _ _ = some _ ∧ _); refine ⟨_, lt_dec _ _, ?_⟩) | ((with_reducible show ∃ _, leD _ _ = some _ ∧ _); refine ⟨_, le_dec _ _, ?_⟩) | ((with_reducible show ∃ _, gtD _ _ = some _ ∧ _); refine ⟨_, gt_dec _ _, ?_⟩) | ((with_reducible show ∃ _, geD _ _ = some _ ∧ _); refine ⟨_, ge_dec _ _, ?_⟩) | ((with_reducible show ∃ _, subD _ _ = some _ ∧ _); refine ⟨_, sub_ii _ _, ?_⟩) | ((with_reducible show ∃ _, negD _ = some _ ∧ _); refine ⟨_, neg_i _, ?_⟩)
  | ((with_reducible show ∃ _, mulD _ _ = some _ ∧ _); refine ⟨_, mul_ii (by omega), ?_⟩) | ((with_reducible show ∃ _, modD _ _ = some _ ∧ _); refine ⟨_, mod_ii (by omega), ?_⟩) | ((with_reducible show ∃ _, divD _ _ = some _ ∧ _); refine ⟨_, div_ii (by omega) (by omega), ?_⟩)
  | ((with_reducible show ∃ _, mixE _ _ _ = some _ ∧ _); refine ⟨_, mix_nil rfl, ?_⟩)
  | ((with_reducible show _ < List.length _ ∧ _); refine ⟨of_decide_eq_true rfl, ?_⟩; (try simp only [List.set_cons_zero, List.set_cons_succ, O.fz, fzs_ints, fzs_purs, keepE_cons, keepE_nil, wipeE]))
  | ((with_reducible show (_ < List.length _ ∧ _) ∧ _); refine ⟨of_decide_eq_true rfl, ?_⟩; (try simp only [List.set_cons_zero, List.set_cons_succ, O.fz, fzs_ints, fzs_purs, keepE_cons, keepE_nil, wipeE]))
  | ((with_reducible show List.length _ ≤ 1000 ∧ _); refine ⟨of_decide_eq_true rfl, ?_⟩; (try simp only [List.set_cons_zero, List.set_cons_succ, O.fz, fzs_ints, fzs_purs, keepE_cons, keepE_nil, wipeE]))
  | ((with_reducible show flatO _ = true ∧ _); refine ⟨rfl, ?_⟩)
  | ((with_reducible show Ev (eaLate _ _) _ _); refine Ev_late rfl ?_)
  | with_reducible refine S_setIx ?_
  | ((with_reducible show EvS (sAugIx _ _ _ _) _ _ _ _ _); refine S_augIx rfl ?_)
  | ((with_reducible show EvS (sAug _ _ _) _ _ _ _ _); refine S_aug rfl ?_)
  | ((with_reducible show ∃ a b c, _ = D.int a ∧ _ ∧ _ ∧ _); refine ⟨_, _, _, rfl, rfl, rfl, ?_⟩; simp only [List.set_cons_zero, List.set_cons_succ, Int.toNat_ofNat, Int.reduceToNat])
  | ((with_reducible show ∃ a b c, _ = D.int a ∧ _ ∧ _ ∧ _); refine ⟨_, _, _, rfl, rfl, rfl, ?_⟩)
  | ((with_reducible show ∃ _, ixD _ _ = some _ ∧ _); refine ⟨_, rfl, ?_⟩)
  | ((with_reducible show ∃ _, lenD _ = some _ ∧ _); refine ⟨_, rfl, ?_⟩)
  | ((with_reducible show ∃ _, absD _ = some _ ∧ _); refine ⟨_, rfl, ?_⟩)
  | ((with_reducible show ∃ _, itemsD _ = some _ ∧ _); refine ⟨_, rfl, ?_⟩)
  | ((with_reducible show ∃ _, tupleD _ = some _ ∧ _); refine ⟨_, rfl, ?_⟩)
  | ((with_reducible show ∃ _, listD _ = some _ ∧ _); refine ⟨_, rfl, ?_⟩)
  | ((with_reducible show ∃ _, listL _ = some _ ∧ _); refine ⟨_, rfl, ?_⟩)
  | ((with_reducible show ∃ _, toIntD _ = some _ ∧ _); refine ⟨_, rfl, ?_⟩)
  | ((with_reducible show ∃ _, isD _ _ = some _ ∧ _); refine ⟨_, rfl, ?_⟩)
  | ((with_reducible show ∃ _, isNotD _ _ = some _ ∧ _); refine ⟨_, rfl, ?_⟩)
  | ((with_reducible show ∃ _, takeS _ _ = some _ ∧ _); refine ⟨_, rfl, ?_⟩)
  | ((with_reducible show ∃ _, fName _ _ _ = some _ ∧ _); refine ⟨_, rfl, ?_⟩; (try simp only [List.set_cons_zero, List.set_cons_succ]))
  | ((with_reducible show ∃ _, fTup _ _ _ _ = some _ ∧ _); refine ⟨_, rfl, ?_⟩; (try simp only [List.set_cons_zero, List.set_cons_succ]))
  | ((with_reducible show ∃ _, slD _ _ _ = some _ ∧ _); refine ⟨_, rfl, ?_⟩)
  | ((with_reducible show ∃ _, slL _ _ _ = some _ ∧ _); refine ⟨_, rfl, ?_⟩)
  | ((with_reducible show ∃ _, List.set _ _ _ = some _ ∧ _); refine ⟨_, rfl, ?_⟩)
  | ((with_reducible show ∃ _, getElem? _ _ = some _ ∧ _); refine ⟨_, rfl, ?_⟩)
  | ((with_reducible show ∃ _, rangeD1 [D.int (Nat.cast _)] = some _ ∧ _); refine ⟨_, range_nat (by omega), ?_⟩) | ((with_reducible show ∃ _, rangeD1 _ = some _ ∧ _); refine ⟨_, range_lit (by omega) (by omega), ?_⟩)
  | ((with_reducible show ∃ _, _ = D.int _ ∧ _); refine ⟨_, rfl, ?_⟩)
  | ((with_reducible show ∃ _, maxD [D.int _, D.int _] = some _ ∧ _); refine ⟨_, rfl, ?_⟩) | ((with_reducible show ∃ _, minD [D.int _, D.int _] = some _ ∧ _); refine ⟨_, rfl, ?_⟩)
  | ((with_reducible show ∃ _, truD _ = some _ ∧ _); refine ⟨_, rfl, ?_⟩)
  | ((with_reducible show ∃ _, _ = D.bl _ ∧ _); refine ⟨_, rfl, ?_⟩)
  | ((with_reducible show ∃ _, neD (.str _) (.str _) = some _ ∧ _); refine ⟨_, ne_str _, ?_⟩) | ((with_reducible show ∃ _, eqD (.str _) (.str _) = some _ ∧ _); refine ⟨_, eq_str _, ?_⟩))
local macro_rules | `(tactic| walk_at "e") => `(tactic| repeat walk_at "e1")
local macro_rules | `(tactic| walk_at "s") => `(tactic| repeat (first | with_reducible refine S_seq ?_ | walk_at "e1"))
local macro_rules | `(tactic| walk_at "n") => `(tactic| try simp only [List.set_cons_zero, List.set_cons_succ, O.fz, fzs_ints, fzs_purs, keepE_cons, keepE_nil, wipeE])
local macro_rules | `(tactic| walk_at "e1") => `(tactic| ((with_reducible show Ev (eCall f_law_take _ _) _ _); refine Ev_take rfl (by assumption) ?_; (try simp only [List.set_cons_zero, List.set_cons_succ])))
local macro_rules | `(tactic| walk_at "e1") => `(tactic| ((with_reducible show ∀ _ _, _ → _ → BagOk _ → _); intro r o' h1 h2 hb; (try simp only [List.set_cons_zero, List.set_cons_succ, O.fz])))
local macro_rules | `(tactic| walk_at "e1") => `(tactic| ((with_reducible show _ < _ ∧ _); refine ⟨by omega, ?_⟩))
local macro_rules | `(tactic| walk_at "e1") => `(tactic| ((with_reducible show Ev (eCall f_law_size _ _) _ _); refine Ev_size rfl (by assumption) ?_; (try simp only [List.set_cons_zero, List.set_cons_succ])))
local macro_rules | `(tactic| walk_at "e1") => `(tactic| ((with_reducible show ∃ _, lenD [D.lst (rowsD _)] = some _ ∧ _); refine ⟨_, rfl, ?_⟩; rw [rowsD_len]))
local macro_rules | `(tactic| walk_at "e1") => `(tactic| ((with_reducible show ∃ _, isaD _ = some _ ∧ _); refine ⟨_, rfl, ?_⟩))
local macro_rules | `(tactic| walk_at "e1") => `(tactic| ((with_reducible show ∃ _, rangeD1 [D.int (_ + 1)] = some _ ∧ _); refine ⟨_, range_succ' (by omega), ?_⟩))
local macro_rules | `(tactic| walk_at "e1") => `(tactic| ((with_reducible show ∃ _, rangeD1 [D.int (1 + _)] = some _ ∧ _); refine ⟨_, range_one_add (by omega) (by omega), ?_⟩))
local macro_rules | `(tactic| walk_at "e1") => `(tactic| ((with_reducible show EvS (sFrz _ _) _ _ _ _ _); refine S_frz rfl ?_; (try simp only [List.set_cons_zero, List.set_cons_succ, O.fz, fzs, fzs_ints, fzs_purs])))
/-! the filler and the chain -/
/-! the stretches of the plain chain -/
end DL.Sh
set_option Elab.async false
set_option linter.all false
set_option maxRecDepth 100000
set_option maxHeartbeats 4000000
/-! The data layer: a statement that borrows. -/
namespace DL
open PySem PySem.Spec PyProof.Rows L2
/-! is, is not of bools -/
end DL
set_option Elab.async false
set_option linter.all false
set_option maxRecDepth 100000
set_option maxHeartbeats 4000000
namespace DL.Sh
open PySem PySem.Spec PyProof.Rows L2
end DL.Sh
set_option Elab.async false
set_option linter.all false
set_option maxRecDepth 100000
set_option maxHeartbeats 4000000
namespace DL.Sh
open PySem PySem.Spec PyProof.Rows L2
/-- one step backwards -/
local macro_rules | `(tactic| walk_at "e1") => `(tactic| first
  | with_reducible refine S_next ?_ | with_reducible refine S_ret ?_ | with_reducible refine S_drop ?_ | with_reducible refine S_if ?_ | with_reducible refine S_for ?_
  | with_reducible refine Ev_C ?_ | with_reducible refine Ev_fz ?_ | with_reducible refine Ev_pur ?_ | with_reducible refine Ev_op2 ?_ | with_reducible refine Ev_top2 ?_ | with_reducible refine Ev_op1 ?_ | with_reducible refine Ev_val ?_
  | with_reducible refine Ev_tand ?_ | with_reducible refine Ev_tor ?_ | with_reducible refine Ev_tnot ?_ | with_reducible refine Ev_and ?_ | with_reducible refine Ev_or ?_ | with_reducible refine Ev_not ?_ | with_reducible refine Ev_if ?_
  | with_reducible refine Ev_anil ?_ | with_reducible refine Ev_acons ?_ | with_reducible refine Ev_eanil ?_ | with_reducible refine Ev_eacons ?_ | with_reducible refine Ev_call ?_ | with_reducible refine Ev_onone ?_ | with_reducible refine Ev_osome ?_
  | with_reducible refine Ev_sl ?_ | with_reducible refine Ev_esl ?_ | with_reducible refine Ev_eop2 ?_ | with_reducible refine Ev_eargs ?_ | with_reducible refine Ev_iseq ?_ | with_reducible refine Ev_iargs ?_ | with_reducible refine Ev_yes ?_
  | with_reducible refine Ev_chain ?_ | with_reducible refine Ev_tchain ?_
  | (with_reducible refine Ev_tbor ?_; simp only [frzE, Option.map_some, Option.map_none, O.fz, fzs, fzs_ints, fzs_purs])
  | (with_reducible refine Ev_bor ?_; simp only [frzE, Option.map_some, Option.map_none, O.fz, fzs, fzs_ints, fzs_purs])
  | ((with_reducible show (if (!true) = true then _ else _)); rw [if_neg (by decide)]) | ((with_reducible show (if (!false) = true then _ else _)); rw [if_pos (by decide)])
  | with_reducible refine Ev_call1 ?_ | ((with_reducible show (if true = true then _ else _)); rw [if_pos rfl]) | ((with_reducible show (if false = true then _ else _)); rw [if_neg Bool.false_ne_true])
  | ((with_reducible show Ev (dVar _) _ _); refine Ev_var rfl ?_)
  | ((with_reducible show Ev (eMove _) _ _); refine Ev_move rfl ?_; (try simp only [List.set_cons_zero, List.set_cons_succ]))
  | ((with_reducible refine S_set ?_))
  | (with_reducible refine S_asg ?_)
  | ((with_reducible refine Ev_tup ?_)) | ((with_reducible refine Ev_lst ?_)) | ((with_reducible refine Ev_elst ?_)) | ((with_reducible refine Ev_etup ?_))
  | ((with_reducible show ∃ _, powD _ _ = some _ ∧ _); refine ⟨_, pow18, ?_⟩) | ((with_reducible show ∃ _, powD _ _ = some _ ∧ _); refine ⟨_, rfl, ?_⟩; simp only [Int.reduceToNat, Int.reducePow]) | ((with_reducible show ∃ _, addD _ _ = some _ ∧ _); refine ⟨_, add_ii _ _, ?_⟩) | ((with_reducible show ∃ _, eqD _ _ = some _ ∧ _); refine ⟨_, eq_dec _ _, ?_⟩) | ((with_reducible show ∃ _, neD _ _ = some _ ∧ _); refine ⟨_, ne_dec _ _, ?_⟩) | ((with_reducible show ∃ _, ltD _ _ = some _ ∧ _); refine ⟨_, lt_dec _ _, ?_⟩) | ((with_reducible show ∃ _, leD _ _ = some _ ∧ _); refine ⟨_, le_dec _ _, ?_⟩) | ((with_reducible show ∃ _, gtD _ _ = some _ ∧ _); refine ⟨_, gt_dec _ _, ?_⟩) | ((with_reducible show ∃ _, geD _ _ = some _ ∧ _); refine ⟨_, ge_dec _ _, ?_⟩) | ((with_reducible show ∃ _, subD _ _ = some _ ∧ _); refine ⟨_, sub_ii _ _, ?_⟩) | ((with_reducible show ∃ _, negD _ = some _ ∧ _); refine ⟨_, neg_i _, ?_⟩)
  | ((with_reducible show ∃ _, mulD _ _ = some _ ∧ _); refine ⟨_, mul_ii (by omega), ?_⟩) | ((with_reducible show ∃ _, modD _ _ = some _ ∧ _); refine ⟨_, mod_ii (by omega), ?_⟩) | ((with_reducible show ∃ _, divD _ _ = some _ ∧ _); refine ⟨_, div_ii (by omega) (by omega), ?_⟩)
  | ((with_reducible show ∃ _, mixE _ _ _ = some _ ∧ _); refine ⟨_, mix_nil rfl, ?_⟩)
  | ((with_reducible show _ < List.length _ ∧ _); refine ⟨of_decide_eq_true rfl, ?_⟩; (try simp only [List.set_cons_zero, List.set_cons_succ, O.fz, fzs_ints, fzs_purs, keepE_cons, keepE_nil, wipeE]))
  | ((with_reducible show (_ < List.length _ ∧ _) ∧ _); refine ⟨of_decide_eq_true rfl, ?_⟩; (try simp only [List.set_cons_zero, List.set_cons_succ, O.fz, fzs_ints, fzs_purs, keepE_cons, keepE_nil, wipeE]))
  | ((with_reducible show List.length _ ≤ 1000 ∧ _); refine ⟨of_decide_eq_true rfl, ?_⟩; (try simp only [List.set_cons_zero, List.set_cons_succ, O.fz, fzs_ints, fzs_purs, keepE_cons, keepE_nil, wipeE]))
  | ((with_reducible show flatO _ = true ∧ _); refine ⟨rfl, ?_⟩)
  | ((with_reducible show Ev (eaLate _ _) _ _); refine Ev_late rfl ?_)
  | with_reducible refine S_setIx ?_
  | ((with_reducible show EvS (sAugIx _ _ _ _) _ _ _ _ _); refine S_augIx rfl ?_)
  | ((with_reducible show EvS (sAug _ _ _) _ _ _ _ _); refine S_aug rfl ?_)
  | ((with_reducible show ∃ a b c, _ = D.int a ∧ _ ∧ _ ∧ _); refine ⟨_, _, _, rfl, rfl, rfl, ?_⟩; simp only [List.set_cons_zero, List.set_cons_succ, Int.toNat_ofNat, Int.reduceToNat])
  | ((with_reducible show ∃ a b c, _ = D.int a ∧ _ ∧ _ ∧ _); refine ⟨_, _, _, rfl, rfl, rfl, ?_⟩)
  | ((with_reducible show ∃ _, ixD _ _ = some _ ∧ _); refine ⟨_, rfl, ?_⟩)
  | ((with_reducible show ∃ _, lenD _ = some _ ∧ _); refine ⟨_, rfl, ?_⟩)
  | ((with_reducible show ∃ _, absD _ = some _ ∧ _); refine ⟨_, rfl, ?_⟩)
  | ((with_reducible show ∃ _, itemsD _ = some _ ∧ _); refine ⟨_, rfl, ?_⟩)
  | ((with_reducible show ∃ _, tupleD _ = some _ ∧ _); refine ⟨_, rfl, ?_⟩)
  | ((with_reducible show ∃ _, listD _ = some _ ∧ _); refine ⟨_, rfl, ?_⟩)
  | ((with_reducible show ∃ _, listL _ = some _ ∧ _); refine ⟨_, rfl, ?_⟩)
  | ((with_reducible show ∃ _, toIntD _ = some _ ∧ _); refine ⟨_, rfl, ?_⟩)
  | ((with_reducible show ∃ _, isD _ _ = some _ ∧ _); refine ⟨_, rfl, ?_⟩)
  | ((with_reducible show ∃ _, isNotD _ _ = some _ ∧ _); refine ⟨_, rfl, ?_⟩)
  | ((with_reducible show ∃ _, takeS _ _ = some _ ∧ _); refine ⟨_, rfl, ?_⟩)
  | ((with_reducible show ∃ _, fName _ _ _ = some _ ∧ _); refine ⟨_, rfl, ?_⟩; (try simp only [List.set_cons_zero, List.set_cons_succ]))
  | ((with_reducible show ∃ _, fTup _ _ _ _ = some _ ∧ _); refine ⟨_, rfl, ?_⟩; (try simp only [List.set_cons_zero, List.set_cons_succ]))
  | ((with_reducible show ∃ _, slD _ _ _ = some _ ∧ _); refine ⟨_, rfl, ?_⟩)
  | ((with_reducible show ∃ _, slL _ _ _ = some _ ∧ _); refine ⟨_, rfl, ?_⟩)
  | ((with_reducible show ∃ _, List.set _ _ _ = some _ ∧ _); refine ⟨_, rfl, ?_⟩)
  | ((with_reducible show ∃ _, getElem? _ _ = some _ ∧ _); refine ⟨_, rfl, ?_⟩)
  | ((with_reducible show ∃ _, rangeD1 [D.int (Nat.cast _)] = some _ ∧ _); refine ⟨_, range_nat (by omega), ?_⟩) | ((with_reducible show ∃ _, rangeD1 _ = some _ ∧ _); refine ⟨_, range_lit (by omega) (by omega), ?_⟩)
  | ((with_reducible show ∃ _, _ = D.int _ ∧ _); refine ⟨_, rfl, ?_⟩)
  | ((with_reducible show ∃ _, maxD [D.int _, D.int _] = some _ ∧ _); refine ⟨_, rfl, ?_⟩) | ((with_reducible show ∃ _, minD [D.int _, D.int _] = some _ ∧ _); refine ⟨_, rfl, ?_⟩)
  | ((with_reducible show ∃ _, truD _ = some _ ∧ _); refine ⟨_, rfl, ?_⟩)
  | ((with_reducible show ∃ _, _ = D.bl _ ∧ _); refine ⟨_, rfl, ?_⟩)
  | ((with_reducible show ∃ _, neD (.str _) (.str _) = some _ ∧ _); refine ⟨_, ne_str _, ?_⟩) | ((with_reducible show ∃ _, eqD (.str _) (.str _) = some _ ∧ _); refine ⟨_, eq_str _, ?_⟩))
local macro_rules | `(tactic| walk_at "e") => `(tactic| repeat walk_at "e1")
local macro_rules | `(tactic| walk_at "s") => `(tactic| repeat (first | with_reducible refine S_seq ?_ | walk_at "e1"))
local macro_rules | `(tactic| walk_at "n") => `(tactic| try simp only [List.set_cons_zero, List.set_cons_succ, O.fz, fzs_ints, fzs_purs, keepE_cons, keepE_nil, wipeE])
local macro_rules | `(tactic| walk_at "e1") => `(tactic| ((with_reducible show Ev (eCall f_law_take _ _) _ _); refine Ev_take rfl (by assumption) ?_; (try simp only [List.set_cons_zero, List.set_cons_succ])))
local macro_rules | `(tactic| walk_at "e1") => `(tactic| ((with_reducible show ∀ _ _, _ → _ → BagOk _ → _); intro r o' h1 h2 hb; (try simp only [List.set_cons_zero, List.set_cons_succ, O.fz])))
local macro_rules | `(tactic| walk_at "e1") => `(tactic| ((with_reducible show _ < _ ∧ _); refine ⟨by omega, ?_⟩))
local macro_rules | `(tactic| walk_at "e1") => `(tactic| ((with_reducible show Ev (eCall f_law_size _ _) _ _); refine Ev_size rfl (by assumption) ?_; (try simp only [List.set_cons_zero, List.set_cons_succ])))
local macro_rules | `(tactic| walk_at "e1") => `(tactic| ((with_reducible show ∃ _, lenD [D.lst (rowsD _)] = some _ ∧ _); refine ⟨_, rfl, ?_⟩; rw [rowsD_len]))
local macro_rules | `(tactic| walk_at "e1") => `(tactic| ((with_reducible show ∃ _, isaD _ = some _ ∧ _); refine ⟨_, rfl, ?_⟩))
local macro_rules | `(tactic| walk_at "e1") => `(tactic| ((with_reducible show ∃ _, rangeD1 [D.int (_ + 1)] = some _ ∧ _); refine ⟨_, range_succ' (by omega), ?_⟩))
local macro_rules | `(tactic| walk_at "e1") => `(tactic| ((with_reducible show ∃ _, rangeD1 [D.int (1 + _)] = some _ ∧ _); refine ⟨_, range_one_add (by omega) (by omega), ?_⟩))
local macro_rules | `(tactic| walk_at "e1") => `(tactic| ((with_reducible show EvS (sFrz _ _) _ _ _ _ _); refine S_frz rfl ?_; (try simp only [List.set_cons_zero, List.set_cons_succ, O.fz, fzs, fzs_ints, fzs_purs])))
local macro_rules | `(tactic| walk_at "e1") => `(tactic| first | with_reducible refine S_par2 ?_ | with_reducible refine S_par3 ?_)
local macro_rules | `(tactic| walk_at "e1") => `(tactic| ((with_reducible show ∃ o1 o2 : O, _ = [o1, o2] ∧ _); refine ⟨_, _, rfl, ?_⟩))
local macro_rules | `(tactic| walk_at "e1") => `(tactic| ((with_reducible show ∃ o1 o2 o3 : O, _ = [o1, o2, o3] ∧ _); refine ⟨_, _, _, rfl, ?_⟩))
local macro_rules | `(tactic| walk_at "e1") => `(tactic| ((with_reducible show (_ < List.length _ ∧ _ < List.length _ ∧ _ < List.length _) ∧ _); refine ⟨of_decide_eq_true rfl, ?_⟩; (try simp only [List.set_cons_zero, List.set_cons_succ, O.fz, fzs_ints, fzs_purs, keepE_cons, keepE_nil, wipeE])))
/-! limits put anew -/
def IsLeast (P : Int → Prop) (r : Int) : Prop := 0 ≤ r ∧ P r ∧ ∀ l, 0 ≤ l → l < r → ¬ P l
end DL.Sh
set_option Elab.async false
set_option linter.all false
set_option maxRecDepth 100000
set_option maxHeartbeats 1000000
/-! The data layer: own trees by paths, readings that only look. -/
namespace DL
open PySem PySem.Spec PyProof.Rows L2
/-! ### a look: everything is lent while it is evaluated -/
section
variable {g : G} {F F2 : AP} {H : Hp}
theorem EnvR.nomut : ∀ {ρ : Env} {fps : List Addr} {σ : L2.St}, EnvR g F H ρ fps σ → NoMut H fps
  | [], fps, σ, en => by
    simp only [EnvR] at en
    rw [en.1]; intro a m; simp at m
  | none :: ρ, fps, σ, en => by
    simp only [EnvR] at en
    obtain ⟨x, s, rfl, q⟩ := en
    exact EnvR.nomut q
  | some o :: ρ, fps, σ, en => by
    simp only [EnvR] at en
    obtain ⟨v, s, f1, f2, rfl, rfl, r1, r2⟩ := en
    intro a m
    rcases List.mem_append.mp m with m | m
    · exact RpO.nomut o f1 v r1 a m
    · exact EnvR.nomut r2 a m
/-- what stands behind a look -/
structure Lk (F : AP) (H : Hp) (fps : List Addr) (F' : AP) (H' : Hp) (fp : List Addr) : Prop where
  keep : ∀ a, H a ≠ none → H' a = H a
  fF : ∀ a, F a → F' a
  ext : Ext F H fps F' H' (fps ++ fp)
  wd : Wd F' H' (fps ++ fp)
theorem look {ρ : Env} {fps : List Addr} {σ : L2.St} {F1 : AP} {H1 : Hp} {p1 fp : List Addr} (en : EnvR g F H ρ fps σ) (w : Wd F H fps) (x1 : Ext (frzF F fps) H [] F1 H1 (p1 ++ fp)) (w1 : Wd F1 H1 (p1 ++ fp)) :
    ∃ F2 : AP, Lk F H fps F2 H1 fp ∧ EnvR g F2 H1 ρ fps σ ∧ NoMut H1 fps ∧ (∀ a, F1 a → a ∉ fps → F2 a) := by
  have keep : ∀ a, H a ≠ none → H1 a = H a := fun a h => x1.keep a h (by simp)
  have nm := en.nomut
  have nm1 : NoMut H1 fps := fun a m vs => by rw [keep a (w.own a m).1]; exact nm a m vs
  have own1 : ∀ a ∈ p1 ++ fp, H a = none := fun a m => (x1.own a m).elim (fun z => by simp at z) id
  refine ⟨fun a => F1 a ∧ a ∉ fps, ⟨keep, fun a h => ⟨x1.fF a (.inl h), fun z => (w.own a z).2 h⟩, ⟨fun a h => ⟨x1.fF a (.inl h), fun z => (w.own a z).2 h⟩, fun a h _ => keep a h, x1.dom, fun a m => ?_, fun a h => ?_⟩, ⟨?_, fun a m => ?_, fun a h => w1.fro a h.1⟩⟩, en.mono (fun a h => ⟨⟨x1.fF a (.inl h), fun z => (w.own a z).2 h⟩, keep a (w.fro a h)⟩) (fun a m => keep a (w.own a m).1), nm1, fun a h n => ⟨h, n⟩⟩
  · rcases List.mem_append.mp m with m | m
    · exact .inl m
    · exact .inr (own1 a (List.mem_append_right _ m))
  · rcases x1.newF a h.1 with z | z | z
    · exact z.elim .inl fun z => absurd z h.2
    · simp at z
    · exact .inr (.inr z)
  · refine List.nodup_append.mpr ⟨w.nd, (List.nodup_append.mp w1.nd).2.1, fun a ma b mb e => ?_⟩
    subst e
    exact (w.own a ma).1 (own1 a (List.mem_append_right _ mb))
  · rcases List.mem_append.mp m with m | m
    · exact ⟨by rw [keep a (w.own a m).1]; exact (w.own a m).1, fun z => z.2 m⟩
    · exact ⟨(w1.own a (List.mem_append_right _ m)).1, fun z => (w1.own a (List.mem_append_right _ m)).2 z.1⟩
end
/-! ### paths into an own tree -/
inductive Stp where
  | at (n : Nat) | fld (f : Str) | key (k : Key)
def getF {α : Type} (f : Str) : List (Str × α) → Option α
  | [] => none
  | (x, o) :: r => if f = x then some o else getF f r
def setF {α : Type} (f : Str) (y : α) : List (Str × α) → List (Str × α)
  | [] => []
  | (x, o) :: r => if f = x then (x, y) :: r else (x, o) :: setF f y r
def getK {α : Type} (f : Key) : List (Key × α) → Option α
  | [] => none
  | (x, o) :: r => if x = f then some o else getK f r
def setK {α : Type} (f : Key) (y : α) : List (Key × α) → List (Key × α)
  | [] => []
  | (x, o) :: r => if x = f then (x, y) :: r else (x, o) :: setK f y r
def getS : Stp → O → Option O
  | .at n, .lst os => os[n]?
  | .at n, .tup os => os[n]?
  | .fld f, .ins _ fs => getF f fs
  | .fld f, .shl _ fs => getF f fs
  | .key k, .dct kvs => getK k kvs
  | _, _ => none
def setS : Stp → O → O → O
  | .at n, .lst os, y => .lst (os.set n y)
  | .at n, .tup os, y => .tup (os.set n y)
  | .fld f, .ins c fs, y => .ins c (setF f y fs)
  | .fld f, .shl c fs, y => .shl c (setF f y fs)
  | .key k, .dct kvs, y => .dct (setK k y kvs)
  | _, o, _ => o
def getP : List Stp → O → Option O
  | [], o => some o
  | p :: ps, o => (getS p o).bind (getP ps)
def setP : List Stp → O → O → O
  | [], _, y => y
  | p :: ps, o, y => match getS p o with
    | some o2 => setS p o (setP ps o2 y)
    | none => o
theorem getP_snoc : ∀ (ps : List Stp) (q : Stp) (o : O), getP (ps ++ [q]) o = (getP ps o).bind (getS q)
  | [], q, o => by simp [getP]
  | p :: ps, q, o => by
    simp only [List.cons_append, getP]
    cases getS p o with
    | none => rfl
    | some o2 => exact getP_snoc ps q o2
theorem setP_snoc : ∀ (ps : List Stp) (q : Stp) (o s y : O), getP ps o = some s → (getS q s).isSome = true → setP (ps ++ [q]) o y = setP ps o (setS q s y)
  | [], q, o, s, y, h, k => by
    simp only [getP, Option.some.injEq] at h
    subst h
    simp only [List.nil_append, setP]
    cases hh : getS q o with
    | none => rw [hh] at k; simp at k
    | some o2 => rfl
  | p :: ps, q, o, s, y, h, k => by
    simp only [getP] at h
    simp only [List.cons_append, setP]
    cases hh : getS p o with
    | none => simp [hh] at h
    | some o2 =>
      rw [hh] at h
      simp only
      rw [setP_snoc ps q o2 s y (by simpa using h) k]
section
variable {g : G} {F : AP} {H : Hp}
/-- a part of a list, and what is put into its place -/
theorem RpOs.foc : ∀ {os : List O} {f : List Addr} {vs : List V} {n : Nat} {o : O}, RpOs g F H os f vs → os[n]? = some o → ∃ (v : V) (f1 fr : List Addr), vs[n]? = some v ∧ RpO g F H o f1 v ∧ (∀ x, f.count x = f1.count x + fr.count x) ∧
    ∀ (F' : AP) (H' : Hp) (o' : O) (g1 : List Addr), (∀ a, F a → F' a ∧ H' a = H a) → (∀ a ∈ fr, H' a = H a) → RpO g F' H' o' g1 v → ∃ f', RpOs g F' H' (os.set n o') f' vs ∧ ∀ x, f'.count x = g1.count x + fr.count x
  | [], f, vs, n, o, h, e => by simp at e
  | o0 :: os, f, vs, 0, o, h, e => by
    simp at e; subst e
    simp only [RpOs] at h
    obtain ⟨v, r, f1, f2, rfl, rfl, h1, h2⟩ := h
    refine ⟨v, f1, f2, rfl, h1, fun x => by simp, fun F' H' o' g1 m k r' => ⟨g1 ++ f2, ?_, fun x => by simp⟩⟩
    simp only [List.set_cons_zero, RpOs]
    exact ⟨v, r, g1, f2, rfl, rfl, r', RpOs.mono m _ _ _ k h2⟩
  | o0 :: os, f, vs, n + 1, o, h, e => by
    simp only [RpOs] at h
    obtain ⟨v, r, f1, f2, rfl, rfl, h1, h2⟩ := h
    obtain ⟨u, g0, gr, k1, k2, k3, k4⟩ := RpOs.foc (n := n) h2 (by simpa using e)
    refine ⟨u, g0, f1 ++ gr, by simpa using k1, k2, fun x => by have := k3 x; simp only [List.count_append]; omega, fun F' H' o' g1 m k r' => ?_⟩
    obtain ⟨f', q1, q2⟩ := k4 F' H' o' g1 m (fun a h => k a (List.mem_append_right _ h)) r'
    refine ⟨f1 ++ f', ?_, fun x => by have := q2 x; simp only [List.count_append]; omega⟩
    simp only [List.set_cons_succ, RpOs]
    exact ⟨v, r, f1, f', rfl, rfl, RpO.mono m _ _ _ (fun a h => k a (List.mem_append_left _ h)) h1, q1⟩
theorem RpOF.foc : ∀ {os : List (Str × O)} {f : List Addr} {vs : List (Str × V)} {n : Str} {o : O}, RpOF g F H os f vs → getF n os = some o → ∃ (v : V) (f1 fr : List Addr), vs.lookup n = some v ∧ RpO g F H o f1 v ∧ (∀ x, f.count x = f1.count x + fr.count x) ∧
    ∀ (F' : AP) (H' : Hp) (o' : O) (g1 : List Addr), (∀ a, F a → F' a ∧ H' a = H a) → (∀ a ∈ fr, H' a = H a) → RpO g F' H' o' g1 v → ∃ f', RpOF g F' H' (setF n o' os) f' vs ∧ ∀ x, f'.count x = g1.count x + fr.count x
  | [], f, vs, n, o, h, e => by simp [getF] at e
  | (x0, o0) :: os, f, vs, n, o, h, e => by
    simp only [RpOF] at h
    obtain ⟨v, r, f1, f2, rfl, rfl, h1, h2⟩ := h
    unfold getF at e
    unfold setF
    by_cases q : n = x0
    · rw [if_pos q] at e
      simp only [if_pos q]
      cases e
      refine ⟨v, f1, f2, by subst q; exact List.lookup_cons_self, h1, fun x => by simp, fun F' H' o' g1 m k r' => ⟨g1 ++ f2, ?_, fun x => by simp⟩⟩
      simp only [RpOF]
      exact ⟨v, r, g1, f2, rfl, rfl, r', RpOF.mono m _ _ _ k h2⟩
    · rw [if_neg q] at e
      simp only [if_neg q]
      obtain ⟨u, g0, gr, k1, k2, k3, k4⟩ := RpOF.foc h2 e
      refine ⟨u, g0, f1 ++ gr, by rw [List.lookup_cons, show (n == x0) = false from beq_false_of_ne q]; exact k1, k2, fun x => by have := k3 x; simp only [List.count_append]; omega, fun F' H' o' g1 m k r' => ?_⟩
      obtain ⟨f', q1, q2⟩ := k4 F' H' o' g1 m (fun a h => k a (List.mem_append_right _ h)) r'
      refine ⟨f1 ++ f', ?_, fun x => by have := q2 x; simp only [List.count_append]; omega⟩
      simp only [RpOF]
      exact ⟨v, r, f1, f', rfl, rfl, RpO.mono m _ _ _ (fun a h => k a (List.mem_append_left _ h)) h1, q1⟩
theorem RpOK.foc : ∀ {os : List (Key × O)} {f : List Addr} {vs : List (Key × V)} {n : Key} {o : O}, RpOK g F H os f vs → getK n os = some o → ∃ (v : V) (f1 fr : List Addr), L2.valV vs n = some v ∧ RpO g F H o f1 v ∧ (∀ x, f.count x = f1.count x + fr.count x) ∧
    ∀ (F' : AP) (H' : Hp) (o' : O) (g1 : List Addr), (∀ a, F a → F' a ∧ H' a = H a) → (∀ a ∈ fr, H' a = H a) → RpO g F' H' o' g1 v → ∃ f', RpOK g F' H' (setK n o' os) f' vs ∧ ∀ x, f'.count x = g1.count x + fr.count x
  | [], f, vs, n, o, h, e => by simp [getK] at e
  | (x0, o0) :: os, f, vs, n, o, h, e => by
    simp only [RpOK] at h
    obtain ⟨v, r, f1, f2, rfl, rfl, h1, h2⟩ := h
    unfold getK at e
    unfold setK
    by_cases q : x0 = n
    · rw [if_pos q] at e
      simp only [if_pos q]
      cases e
      refine ⟨v, f1, f2, by unfold L2.valV; rw [List.find?_cons_of_pos (by simpa using q)]; rfl, h1, fun x => by simp, fun F' H' o' g1 m k r' => ⟨g1 ++ f2, ?_, fun x => by simp⟩⟩
      simp only [RpOK]
      exact ⟨v, r, g1, f2, rfl, rfl, r', RpOK.mono m _ _ _ k h2⟩
    · rw [if_neg q] at e
      simp only [if_neg q]
      obtain ⟨u, g0, gr, k1, k2, k3, k4⟩ := RpOK.foc h2 e
      refine ⟨u, g0, f1 ++ gr, by unfold L2.valV at k1 ⊢; rw [List.find?_cons_of_neg (by simpa using q)]; exact k1, k2, fun x => by have := k3 x; simp only [List.count_append]; omega, fun F' H' o' g1 m k r' => ?_⟩
      obtain ⟨f', q1, q2⟩ := k4 F' H' o' g1 m (fun a h => k a (List.mem_append_right _ h)) r'
      refine ⟨f1 ++ f', ?_, fun x => by have := q2 x; simp only [List.count_append]; omega⟩
      simp only [RpOK]
      exact ⟨v, r, f1, f', rfl, rfl, RpO.mono m _ _ _ (fun a h => k a (List.mem_append_left _ h)) h1, q1⟩
end
/-- v stands at the path p in slot i's tree -/
def AtP (g : G) (F : AP) (H : Hp) (ρ : Env) (fps : List Addr) (σ : L2.St) (i : Nat) (p : List Stp) (v : V) : Prop := ∃ (o s : O) (fs fr : List Addr), ρ[i]? = some (some o) ∧ getP p o = some s ∧ RpO g F H s fs v ∧ (∀ x, fps.count x = fs.count x + fr.count x) ∧
  ∀ (F' : AP) (H' : Hp) (s' : O) (fs' : List Addr), (∀ a, F a → F' a ∧ H' a = H a) → (∀ a ∈ fr, H' a = H a) → RpO g F' H' s' fs' v → ∃ fps', EnvR g F' H' (ρ.set i (some (setP p o s'))) fps' σ ∧ ∀ x, fps'.count x = fs'.count x + fr.count x
def at_ (i : Nat) (p : List Stp) (ρ : Env) : Option O := match ρ[i]? with
  | some (some o) => getP p o
  | _ => none
def putP (i : Nat) (p : List Stp) (s : O) (ρ : Env) : Env := match ρ[i]? with
  | some (some o) => ρ.set i (some (setP p o s))
  | _ => ρ
section
variable {g : G} {F F1 F2 : AP} {H H1 H2 : Hp} {ρ : Env} {fps fp : List Addr} {σ : L2.St} {i n : Nat} {p : List Stp} {v : V} {s2 : O}
theorem Lk.refl (w : Wd F H fps) : Lk F H fps F H [] := ⟨fun _ _ => rfl, fun _ h => h, by simpa using Ext.refl, by simpa using w⟩
theorem Lk.w (l : Lk F H fps F1 H1 []) : Wd F1 H1 fps := by simpa using l.wd
theorem Lk.trans (a : Lk F H fps F1 H1 []) (b : Lk F1 H1 fps F2 H2 fp) : Lk F H fps F2 H2 fp := ⟨fun x h => by rw [b.keep x (by rw [a.keep x h]; exact h), a.keep x h], fun x h => b.fF x (a.fF x h), (by simpa using a.ext : Ext F H fps F1 H1 fps).trans b.ext, b.wd⟩
theorem AtP.fld {c : Str} {f : Str} {fs0 : List (Str × O)} (a : AtP g F H ρ fps σ i p v) (h : at_ i p ρ = some (.ins c fs0)) (hn : getF f fs0 = some s2) : ∃ (b C dx : Addr) (vs : List (Str × V)) (u : V), v = .ref b ∧ H b = some (.ins C dx vs) ∧ g.mg c = some (.ref C) ∧ vs.lookup f = some u ∧ AtP g F H ρ fps σ i (p ++ [.fld f]) u := by
  obtain ⟨o, s, fs, fr, h1, h2, h3, h4, h5⟩ := a
  unfold at_ at h
  rw [h1] at h
  simp only [h2, Option.some.injEq] at h
  subst h
  simp only [RpO] at h3
  obtain ⟨b, C, dx, vs, r, rfl, hb, hc, ro, rfl⟩ := h3
  obtain ⟨u, f1, fr1, k1, k2, k3, k4⟩ := ro.foc hn
  refine ⟨b, C, dx, vs, u, rfl, hb, hc, k1, o, s2, f1, b :: (fr1 ++ fr), h1, by rw [getP_snoc, h2]; exact hn, k2, fun x => by
    have := h4 x; have := k3 x
    simp only [List.count_cons, List.count_append] at *
    omega, fun F' H' s' fs' m k r' => ?_⟩
  obtain ⟨f', q1, q2⟩ := k4 F' H' s' fs' m (fun a h => k a (by simp [h])) r'
  obtain ⟨fps', e1, e2⟩ := h5 F' H' (.ins c (setF f s' fs0)) (b :: f') m (fun a h => k a (by simp [h])) (by
    simp only [RpO]
    exact ⟨b, C, dx, vs, f', rfl, (k b (by simp)).trans hb, hc, q1, rfl⟩)
  refine ⟨fps', by rw [setP_snoc p (.fld f) o _ s' h2 (by show (getF f fs0).isSome = true; rw [hn]; rfl)]; exact e1, fun x => ?_⟩
  have := e2 x; have := q2 x
  simp only [List.count_cons, List.count_append] at *
  omega
theorem AtP.key {k0 : Key} {fs0 : List (Key × O)} (a : AtP g F H ρ fps σ i p v) (h : at_ i p ρ = some (.dct fs0)) (hn : getK k0 fs0 = some s2) : ∃ (b : Addr) (vs : List (Key × V)) (u : V), v = .ref b ∧ H b = some (.dK vs) ∧ L2.valV vs k0 = some u ∧ AtP g F H ρ fps σ i (p ++ [.key k0]) u := by
  obtain ⟨o, s, fs, fr, h1, h2, h3, h4, h5⟩ := a
  unfold at_ at h
  rw [h1] at h
  simp only [h2, Option.some.injEq] at h
  subst h
  simp only [RpO] at h3
  obtain ⟨b, vs, r, rfl, hb, ro, rfl⟩ := h3
  obtain ⟨u, f1, fr1, k1, k2, k3, k4⟩ := ro.foc hn
  refine ⟨b, vs, u, rfl, hb, k1, o, s2, f1, b :: (fr1 ++ fr), h1, by rw [getP_snoc, h2]; exact hn, k2, fun x => by
    have := h4 x; have := k3 x
    simp only [List.count_cons, List.count_append] at *
    omega, fun F' H' s' fs' m k r' => ?_⟩
  obtain ⟨f', q1, q2⟩ := k4 F' H' s' fs' m (fun a h => k a (by simp [h])) r'
  obtain ⟨fps', e1, e2⟩ := h5 F' H' (.dct (setK k0 s' fs0)) (b :: f') m (fun a h => k a (by simp [h])) (by
    simp only [RpO]
    exact ⟨b, vs, f', rfl, (k b (by simp)).trans hb, q1, rfl⟩)
  refine ⟨fps', by rw [setP_snoc p (.key k0) o _ s' h2 (by show (getK k0 fs0).isSome = true; rw [hn]; rfl)]; exact e1, fun x => ?_⟩
  have := e2 x; have := q2 x
  simp only [List.count_cons, List.count_append] at *
  omega
/-- the world behind a change at a node that is owned -/
structure Node (F : AP) (H : Hp) (fps fp : List Addr) (b : Addr) (r fr : List Addr) : Prop where
  w : Wd F H (fps ++ fp)
  c : ∀ x, fps.count x = (b :: r).count x + fr.count x
theorem Node.ne (N : Node F H fps fp b r fr) : (∀ x, x ∈ r ∨ x ∈ fr ∨ x ∈ fp → x ≠ b) ∧ ¬ F b ∧ H b ≠ none := by
  have cn := List.nodup_iff_count.mp N.w.nd
  have hb : b ∈ fps := List.count_pos_iff.mp (by have := N.c b; simp only [List.count_cons_self] at this; omega)
  refine ⟨fun x m e => ?_, (N.w.own b (List.mem_append_left _ hb)).2, (N.w.own b (List.mem_append_left _ hb)).1⟩
  subst e
  have h1 := cn x; have h2 := N.c x
  simp only [List.count_append, List.count_cons_self] at h1 h2
  rcases m with m | m | m
  · have := List.count_pos_iff.mpr m; omega
  · have := List.count_pos_iff.mpr m; omega
  · have := List.count_pos_iff.mpr m; omega
theorem Node.st (N : Node F H fps fp b r fr) (ho : HO) : ∀ x, x ∈ r ∨ x ∈ fr ∨ x ∈ fp → upd H b ho x = H x := fun x h => upd_ne (N.ne.1 x h)
end
/-! ### readings of paths -/
abbrev PM := Env → Option (List Stp)
end DL
set_option Elab.async false
set_option linter.all false
set_option maxRecDepth 100000
set_option maxHeartbeats 1000000
/-! The data layer: changes by paths; instances: fields, making, methods. -/
namespace DL
open PySem PySem.Spec PyProof.Rows L2
section
variable {g : G} {F F1 F2 : AP} {H H1 H2 : Hp} {ρ : Env} {fps fp : List Addr} {σ : L2.St} {i n : Nat} {p : List Stp} {v : V} {s2 : O}
def PutAt (g : G) (F : AP) (H : Hp) (ρ : Env) (σ : L2.St) (i : Nat) (p : List Stp) (v : V) (fr : List Addr) : Prop := ∀ (F' : AP) (H' : Hp) (s' : O) (fs' : List Addr), (∀ a, F a → F' a ∧ H' a = H a) → (∀ a ∈ fr, H' a = H a) → RpO g F' H' s' fs' v →
  ∃ fps', EnvR g F' H' (putP i p s' ρ) fps' σ ∧ ∀ x, fps'.count x = fs'.count x + fr.count x
theorem AtP.open (a : AtP g F H ρ fps σ i p v) {s : O} (h : at_ i p ρ = some s) : ∃ fs fr : List Addr, RpO g F H s fs v ∧ (∀ x, fps.count x = fs.count x + fr.count x) ∧ PutAt g F H ρ σ i p v fr := by
  obtain ⟨o, s, fs, fr, h1, h2, h3, h4, h5⟩ := a
  unfold at_ at h
  rw [h1] at h
  simp only [h2, Option.some.injEq] at h
  subst h
  refine ⟨fs, fr, h3, h4, fun F' H' s' fs' m k r => ?_⟩
  obtain ⟨f', e1, e2⟩ := h5 F' H' s' fs' m k r
  exact ⟨f', by unfold putP; rw [h1]; exact e1, e2⟩
theorem AtP.lst {os : List O} (a : AtP g F H ρ fps σ i p v) (h : at_ i p ρ = some (.lst os)) : ∃ (b : Addr) (vs : List V) (r fr : List Addr), v = .ref b ∧ H b = some (.lst vs) ∧ RpOs g F H os r vs ∧ (∀ x, fps.count x = (b :: r).count x + fr.count x) ∧ PutAt g F H ρ σ i p v fr := by
  obtain ⟨fs, fr, h3, h4, h5⟩ := a.open h
  simp only [RpO] at h3
  obtain ⟨b, vs, r, rfl, hb, ro, rfl⟩ := h3
  exact ⟨b, vs, r, fr, rfl, hb, ro, h4, h5⟩
theorem AtP.ins {c : Str} {os : List (Str × O)} (a : AtP g F H ρ fps σ i p v) (h : at_ i p ρ = some (.ins c os)) : ∃ (b C dx : Addr) (vs : List (Str × V)) (r fr : List Addr), v = .ref b ∧ H b = some (.ins C dx vs) ∧ g.mg c = some (.ref C) ∧ RpOF g F H os r vs ∧ (∀ x, fps.count x = (b :: r).count x + fr.count x) ∧ PutAt g F H ρ σ i p v fr := by
  obtain ⟨fs, fr, h3, h4, h5⟩ := a.open h
  simp only [RpO] at h3
  obtain ⟨b, C, dx, vs, r, rfl, hb, hc, ro, rfl⟩ := h3
  exact ⟨b, C, dx, vs, r, fr, rfl, hb, hc, ro, h4, h5⟩
theorem AtP.dct {os : List (Key × O)} (a : AtP g F H ρ fps σ i p v) (h : at_ i p ρ = some (.dct os)) : ∃ (b : Addr) (vs : List (Key × V)) (r fr : List Addr), v = .ref b ∧ H b = some (.dK vs) ∧ RpOK g F H os r vs ∧ (∀ x, fps.count x = (b :: r).count x + fr.count x) ∧ PutAt g F H ρ σ i p v fr := by
  obtain ⟨fs, fr, h3, h4, h5⟩ := a.open h
  simp only [RpO] at h3
  obtain ⟨b, vs, r, rfl, hb, ro, rfl⟩ := h3
  exact ⟨b, vs, r, fr, rfl, hb, ro, h4, h5⟩
end
/-! ### a method of an own list at a path -/
theorem RpOF.len {g : G} {F : AP} {H : Hp} : ∀ {os : List (Str × O)} {f : List Addr} {vs : List (Str × V)}, RpOF g F H os f vs → os.length = vs.length
  | [], f, vs, h => by simp only [RpOF] at h; rw [h.2]; rfl
  | (x, o) :: os, f, vs, h => by
    simp only [RpOF] at h
    obtain ⟨v, r, a, b, rfl, rfl, h1, h2⟩ := h
    simp [RpOF.len h2]
end DL
set_option Elab.async false
set_option linter.all false
set_option maxRecDepth 100000
set_option maxHeartbeats 1000000
/-! The data layer: instances: fields, making, methods. -/
namespace DL
open PySem PySem.Spec PyProof.Rows L2
/-! ### methods and makers that keep FnG's promise -/
/-! ### fields of frozen instances -/
def fldD (c f : Str) : D → Option D
  | .ins c' fs => if c' = c then getF f fs else none
  | _ => none
theorem RpF.get {g : G} {F : AP} {H : Hp} : ∀ {fs : List (Str × D)} {vs : List (Str × V)} {f : Str} {d : D}, RpF g F H fs vs → getF f fs = some d → ∃ v, vs.lookup f = some v ∧ Rp g F H d v
  | [], vs, f, d, h, e => by simp [getF] at e
  | (x0, d0) :: fs, vs, f, d, h, e => by
    simp only [RpF] at h
    obtain ⟨v, r, rfl, h1, h2⟩ := h
    unfold getF at e
    by_cases q : f = x0
    · rw [if_pos q] at e
      cases e
      exact ⟨v, by subst q; exact List.lookup_cons_self, h1⟩
    · rw [if_neg q] at e
      obtain ⟨u, k1, k2⟩ := RpF.get h2 e
      exact ⟨u, by rw [List.lookup_cons, show (f == x0) = false from beq_false_of_ne q]; exact k1, k2⟩
/-! ### calls -/
/-- a method of a frozen instance -/
def isIns (c m : Str) : D → Bool
  | .ins c' fs => decide (c' = c) && (getF m fs).isNone
  | _ => false
def eMCallD (c m : Str) (f : List O → Option (O × List O)) (fr : M D) (fs : M (List O)) : M O := bnd fr fun d => if isIns c m d = true then bnd fs fun os ρ1 => match f (.pur d :: os) with
    | some (r, []) => some (r, ρ1)
    | _ => none
  else fun _ => none
/-- a maker -/
def eMake (c : Str) (f : List O → Option (O × List O)) (fs : M (List O)) : M O := bnd fs fun os ρ1 => match f (.ins c [] :: os) with
  | some (.pur .non, [o]) => some (o, ρ1)
  | _ => none
end DL
set_option Elab.async false
set_option linter.all false
set_option maxRecDepth 100000
set_option maxHeartbeats 1000000
/-! The data layer: classes' methods as statements, divmod. -/
namespace DL
open PySem PySem.Spec PyProof.Rows L2
def divmodD : List D → Option D
  | [.int a, .int b] => if divOk a b = true then some (.tup [.int (a / b), .int (a % b)]) else none
  | _ => none
end DL
namespace DL
open PySem PySem.Spec PyProof.Rows L2
end DL
set_option Elab.async false
set_option linter.all false
set_option maxRecDepth 100000
set_option maxHeartbeats 1000000
/-! The data layer: keyword-only parameters. -/
namespace DL
open PySem PySem.Spec PyProof.Rows L2
section
variable {g : G} {F : AP} {H : Hp}
theorem RpOs.ins {ds : List D} {cs : List V} (hc : Rps g F H ds cs) : ∀ (a : Nat) {os : List O} {fp : List Addr} {vs : List V}, RpOs g F H os fp vs → RpOs g F H (os.take a ++ ds.map .pur ++ os.drop a) fp (vs.take a ++ cs ++ vs.drop a)
  | 0, os, fp, vs, h => by
    simp only [List.take_zero, List.drop_zero, List.nil_append]
    have : ∀ {ds : List D} {cs : List V}, Rps g F H ds cs → RpOs g F H (ds.map .pur ++ os) fp (cs ++ vs) := by
      intro ds
      induction ds with
      | nil => intro cs hc; simp only [Rps] at hc; subst hc; exact h
      | cons d ds ih =>
        intro cs hc
        simp only [Rps] at hc
        obtain ⟨v, r, rfl, h1, h2⟩ := hc
        simp only [List.map_cons, List.cons_append, RpOs]
        exact ⟨v, _, [], fp, rfl, rfl, by simp only [RpO]; exact ⟨trivial, h1⟩, ih h2⟩
    exact this hc
  | a + 1, [], fp, vs, h => by
    simp only [RpOs] at h
    obtain ⟨rfl, rfl⟩ := h
    have := RpOs.ins hc 0 (os := []) (fp := []) (vs := []) (by simp [RpOs])
    simpa using this
  | a + 1, o :: os, fp, vs, h => by
    simp only [RpOs] at h
    obtain ⟨v, r, f1, f2, rfl, rfl, h1, h2⟩ := h
    simp only [List.take_succ_cons, List.drop_succ_cons, List.cons_append, RpOs]
    exact ⟨v, _, f1, f2, rfl, rfl, h1, RpOs.ins hc a h2⟩
end
/-! ### calls with keywords, calls that leave them out: of defs that change nothing -/
/-- the positional values, then the keywords' -/
def eCallK (f : List O → Option (O × List O)) (fs ks : M (List O)) : M O := bnd fs fun os => bnd ks fun zs ρ1 => match f (os ++ zs) with
  | some (r, []) => some (r, ρ1)
  | _ => none
def eMCallK (c m : Str) (f : List O → Option (O × List O)) (fr : M D) (fs ks : M (List O)) : M O := bnd fr fun d => if isIns c m d = true then bnd fs fun os => bnd ks fun zs ρ1 => match f (.pur d :: (os ++ zs)) with
    | some (r, []) => some (r, ρ1)
    | _ => none
  else fun _ => none
end DL
namespace DL
open PySem PySem.Spec PyProof.Rows L2
end DL
set_option Elab.async false
set_option linter.all false
set_option maxRecDepth 100000
set_option maxHeartbeats 1000000
/-! The data layer: more methods of own lists. -/
namespace DL
open PySem PySem.Spec PyProof.Rows L2
section
variable {X : Cx} {E : Expr} {i : Nat} {fp : PM} {fs : M (List O)} {fe : M O} {r : V → List V → Hp → VK → Prop} {op : List O → List O → Option (O × List O)}
/-- a method of a list that was just made -/
def eMethT (fe : M O) (op : List O → List O → Option (O × List O)) (fs : M (List O)) : M O := bnd fe fun o => match o with
  | .lst os => bnd fs fun as ρ1 => match op os as with
    | some (r, _) => some (r, ρ1)
    | none => none
  | _ => fun _ => none
end
end DL
set_option Elab.async false
set_option linter.all false
set_option maxRecDepth 100000
set_option maxHeartbeats 4000000
/-! enumerate(tuple). -/
namespace DL
open PySem PySem.Spec L2
open PySem.Sem (wp)
open PyProof.Rows
open AutoSeq1 (wpAny_loadPart')
end DL
set_option Elab.async false
set_option linter.all false
set_option maxRecDepth 100000
set_option maxHeartbeats 4000000
namespace DL.Sh
open PySem PySem.Spec PyProof.Rows L2
theorem runB_nil {nl : Nat} {b : MS} {as : List O} {r : O} {outs : List O} (h : runB nl [] b as = some (r, outs)) : outs = [] := by
  unfold runB at h
  split at h
  · cases h; rfl
  · cases h; rfl
  · cases h
section
variable {ρ : Env}
theorem Ev_mcallD {c m : Str} {f : List O → Option (O × List O)} {fr : M D} {fs : M (List O)} {P : O → Env → Prop} (hf : ∀ as r outs, f as = some (r, outs) → outs = []) (h : Ev fr ρ fun d ρ1 => isIns c m d = true ∧ Ev fs ρ1 fun os ρ2 => Ex f (.pur d :: os) fun r _ => P r ρ2) : Ev (eMCallD c m f fr fs) ρ P := by
  refine Ev_bnd (h.mono fun d ρ1 ⟨hi, h⟩ => ?_)
  rw [if_pos hi]
  refine Ev_bnd (h.mono fun os ρ2 ⟨r, outs, e, p⟩ => ⟨r, ρ2, ?_, p⟩)
  have := hf _ _ _ e
  subst this
  simp only [e]
theorem Ev_mcallK {c m : Str} {f : List O → Option (O × List O)} {fr : M D} {fs ks : M (List O)} {P : O → Env → Prop} (hf : ∀ as r outs, f as = some (r, outs) → outs = []) (h : Ev fr ρ fun d ρ1 => isIns c m d = true ∧ Ev fs ρ1 fun os ρ2 => Ev ks ρ2 fun zs ρ3 => Ex f (.pur d :: (os ++ zs)) fun r _ => P r ρ3) : Ev (eMCallK c m f fr fs ks) ρ P := by
  refine Ev_bnd (h.mono fun d ρ1 ⟨hi, h⟩ => ?_)
  rw [if_pos hi]
  refine Ev_bnd (h.mono fun os ρ2 h => Ev_bnd (h.mono fun zs ρ3 ⟨r, outs, e, p⟩ => ⟨r, ρ3, ?_, p⟩))
  have := hf _ _ _ e
  subst this
  simp only [e]
theorem Ev_callK {f : List O → Option (O × List O)} {fs ks : M (List O)} {P : O → Env → Prop} (hf : ∀ as r outs, f as = some (r, outs) → outs = []) (h : Ev fs ρ fun os ρ2 => Ev ks ρ2 fun zs ρ3 => Ex f (os ++ zs) fun r _ => P r ρ3) : Ev (eCallK f fs ks) ρ P := by
  refine Ev_bnd (h.mono fun os ρ2 h => Ev_bnd (h.mono fun zs ρ3 ⟨r, outs, e, p⟩ => ⟨r, ρ3, ?_, p⟩))
  have := hf _ _ _ e
  subst this
  simp only [e]
theorem Ev_make {c : Str} {f : List O → Option (O × List O)} {fs : M (List O)} {P : O → Env → Prop} (h : Ev fs ρ fun os ρ1 => Ex f (.ins c [] :: os) fun r outs => r = .pur .non ∧ ∃ o, outs = [o] ∧ P o ρ1) : Ev (eMake c f fs) ρ P := by
  refine Ev_bnd (h.mono fun os ρ1 ⟨r, outs, e, hr, o, ho, p⟩ => ⟨o, ρ1, ?_, p⟩)
  subst hr ho
  simp only [e]
theorem Ev_methT {fe : M O} {op : List O → List O → Option (O × List O)} {fs : M (List O)} {P : O → Env → Prop} (h : Ev fe ρ fun o ρ1 => ∃ os, o = .lst os ∧ Ev fs ρ1 fun as ρ2 => ∃ r os', op os as = some (r, os') ∧ P r ρ2) : Ev (eMethT fe op fs) ρ P := by
  refine Ev_bnd (h.mono fun o ρ1 ⟨os, e, h⟩ => ?_)
  subst e
  refine Ev_bnd (h.mono fun as ρ2 ⟨r, os', e, p⟩ => ⟨r, ρ2, ?_, p⟩)
  simp only [e]
variable {N : Env → Prop} {R : O → Env → Prop} {B C : Env → Prop}
theorem divmod_ii {a b : Int} (h : 0 < b) (h2 : b < 10 ^ 60) : divmodD [.int a, .int b] = some (.tup [.int (a / b), .int (a % b)]) := by
  have : divOk a b = true := by unfold divOk; rw [decide_eq_true_eq]; exact ⟨h, log2_lt h2 h⟩
  simp only [divmodD, this, if_true]
end
/-- an endless log, as data -/
def endD (w : Nat) (rows : List (List Int)) : D := .ins "Endless" [("wide", .int w), ("rows", .lst (rowsD rows)), ("sums", .lst ((List.range w).map fun m => .lst ((psums (col rows m) rows.length).map .int)))]
theorem end_wide {w : Nat} {rows : List (List Int)} : fldD "Endless" "wide" (endD w rows) = some (.int w) := rfl
theorem end_rows {w : Nat} {rows : List (List Int)} : fldD "Endless" "rows" (endD w rows) = some (.lst (rowsD rows)) := rfl
theorem end_sums {w : Nat} {rows : List (List Int)} : fldD "Endless" "sums" (endD w rows) = some (.lst ((List.range w).map fun m => .lst ((psums (col rows m) rows.length).map .int))) := rfl
def mapL (N : Nat) (F : Nat → Nat) : D := .lst ((List.range N).map fun n => .int (F n : Nat))
theorem mapL_len {N : Nat} {F : Nat → Nat} : lenD [mapL N F] = some (.int (N : Nat)) := by
  show some (D.int (((List.range N).map fun n => D.int (F n : Nat)).length : Nat)) = _
  rw [List.length_map, List.length_range]
theorem mapL_items {N : Nat} {F : Nat → Nat} : itemsD (mapL N F) = some ((List.range N).map fun n => .int (F n : Nat)) := rfl
/-- is_integer(thing); slots: 0 thing -/
def b_is_integer : MS :=
  (sRet (purM (dAnd (dCall isaD (aCons (dVar 0) (aCons (dC (.ty "int")) aNil))) (dNot (dCall isaD (aCons (dVar 0) (aCons (dC (.ty "bool")) aNil)))))))
def f_is_integer : List O → Option (O × List O) := runB 1 [] b_is_integer
/-- is_between(thing, least, most); slots: 0 thing, 1 least, 2 most -/
def b_is_between : MS :=
  (sRet (purM (dAnd (fzM (eCall f_is_integer [] (eaCons (purM (dVar 0)) eaNil))) (dChain leD leD (dVar 1) (dVar 0) (dVar 2)))))
def f_is_between : List O → Option (O × List O) := runB 3 [] b_is_between
/-- is_size(thing); slots: 0 thing -/
def b_is_size : MS :=
  (sRet (eCall f_is_between [] (eaCons (purM (dVar 0)) (eaCons (purM (dC (.int 0))) (eaCons (purM (dC (.int 1000000000000000000))) eaNil)))))
def f_is_size : List O → Option (O × List O) := runB 1 [] b_is_size
/-- is_entry(thing, width); slots: 0 thing, 1 width, 2 size -/
def b_is_entry : MS :=
  (sRet (purM (dAnd (dCall isaD (aCons (dVar 0) (aCons (dC (.ty "tuple")) aNil))) (dAnd (dOp2 eqD (dCall lenD (aCons (dVar 0) aNil)) (dVar 1)) (dCall allD (aCons (fzM (eComp [2] (iSeqM (dVar 0)) (fName 2) tYesM (eCall f_is_size [] (eaCons (purM (dVar 2)) eaNil)))) aNil))))))
def f_is_entry : List O → Option (O × List O) := runB 3 [] b_is_entry
/-- are_entries(thing, width, most); slots: 0 thing, 1 width, 2 most, 3 entry -/
def b_are_entries : MS :=
  (sSeq (sIf (tOrM (tNotM (tValM (dCall isaD (aCons (dVar 0) (aCons (dC (.ty "list")) aNil))))) (tOp2 gtD (dCall lenD (aCons (dVar 0) aNil)) (dVar 2)))
  (sRet (purM (dC (.bl false))))
  sNext)
  (sRet (purM (dCall allD (aCons (fzM (eComp [3] (iSeqM (dVar 0)) (fName 3) tYesM (eCall f_is_entry [] (eaCons (purM (dVar 3)) (eaCons (purM (dVar 1)) eaNil))))) aNil)))))
def f_are_entries : List O → Option (O × List O) := runB 4 [] b_are_entries
/-- one step backwards -/
local macro_rules | `(tactic| walk_at "e1") => `(tactic| first
  | with_reducible refine S_next ?_ | with_reducible refine S_ret ?_ | with_reducible refine S_drop ?_ | with_reducible refine S_if ?_ | with_reducible refine S_for ?_
  | with_reducible refine Ev_C ?_ | with_reducible refine Ev_fz ?_ | with_reducible refine Ev_pur ?_ | with_reducible refine Ev_op2 ?_ | with_reducible refine Ev_top2 ?_ | with_reducible refine Ev_op1 ?_ | with_reducible refine Ev_val ?_
  | with_reducible refine Ev_tand ?_ | with_reducible refine Ev_tor ?_ | with_reducible refine Ev_tnot ?_ | with_reducible refine Ev_and ?_ | with_reducible refine Ev_or ?_ | with_reducible refine Ev_not ?_ | with_reducible refine Ev_if ?_
  | with_reducible refine Ev_anil ?_ | with_reducible refine Ev_acons ?_ | with_reducible refine Ev_eanil ?_ | with_reducible refine Ev_eacons ?_ | with_reducible refine Ev_call ?_ | with_reducible refine Ev_onone ?_ | with_reducible refine Ev_osome ?_
  | with_reducible refine Ev_sl ?_ | with_reducible refine Ev_esl ?_ | with_reducible refine Ev_eop2 ?_ | with_reducible refine Ev_eargs ?_ | with_reducible refine Ev_iseq ?_ | with_reducible refine Ev_iargs ?_ | with_reducible refine Ev_yes ?_
  | with_reducible refine Ev_chain ?_ | with_reducible refine Ev_tchain ?_
  | (with_reducible refine Ev_tbor ?_; simp only [frzE, Option.map_some, Option.map_none, O.fz, fzs, fzs_ints, fzs_purs])
  | (with_reducible refine Ev_bor ?_; simp only [frzE, Option.map_some, Option.map_none, O.fz, fzs, fzs_ints, fzs_purs])
  | ((with_reducible show (if (!true) = true then _ else _)); rw [if_neg (by decide)]) | ((with_reducible show (if (!false) = true then _ else _)); rw [if_pos (by decide)])
  | with_reducible refine Ev_call1 ?_ | ((with_reducible show (if true = true then _ else _)); rw [if_pos rfl]) | ((with_reducible show (if false = true then _ else _)); rw [if_neg Bool.false_ne_true])
  | ((with_reducible show Ev (dVar _) _ _); refine Ev_var rfl ?_)
  | ((with_reducible show Ev (eMove _) _ _); refine Ev_move rfl ?_; (try simp only [List.set_cons_zero, List.set_cons_succ]))
  | ((with_reducible refine S_set ?_))
  | (with_reducible refine S_asg ?_)
  | ((with_reducible refine Ev_tup ?_)) | ((with_reducible refine Ev_lst ?_)) | ((with_reducible refine Ev_elst ?_)) | ((with_reducible refine Ev_etup ?_))
  | ((with_reducible show ∃ _, powD _ _ = some _ ∧ _); refine ⟨_, pow18, ?_⟩) | ((with_reducible show ∃ _, powD _ _ = some _ ∧ _); refine ⟨_, rfl, ?_⟩; simp only [Int.reduceToNat, Int.reducePow]) | ((with_reducible show ∃ _, addD _ _ = some _ ∧ _); refine ⟨_, add_ii _ _, ?_⟩) | ((with_reducible show ∃ _, eqD _ _ = some _ ∧ _); refine ⟨_, eq_dec _ _, ?_⟩) | ((with_reducible show ∃ _, neD _ _ = some _ ∧ _); refine ⟨_, ne_dec _ _, ?_⟩) | ((with_reducible show ∃ _, ltD _ _ = some _ ∧ _); refine ⟨_, lt_dec _ _, ?_⟩) | ((with_reducible show ∃ _, leD _ _ = some _ ∧ _); refine ⟨_, le_dec _ _, ?_⟩) | ((with_reducible show ∃ _, gtD _ _ = some _ ∧ _); refine ⟨_, gt_dec _ _, ?_⟩) | ((with_reducible show ∃ _, geD _ _ = some _ ∧ _); refine ⟨_, ge_dec _ _, ?_⟩) | ((with_reducible show ∃ _, subD _ _ = some _ ∧ _); refine ⟨_, sub_ii _ _, ?_⟩) | ((with_reducible show ∃ _, negD _ = some _ ∧ _); refine ⟨_, neg_i _, ?_⟩)
  | ((with_reducible show ∃ _, mulD _ _ = some _ ∧ _); refine ⟨_, mul_ii (by omega), ?_⟩) | ((with_reducible show ∃ _, modD _ _ = some _ ∧ _); refine ⟨_, mod_ii (by omega), ?_⟩) | ((with_reducible show ∃ _, divD _ _ = some _ ∧ _); refine ⟨_, div_ii (by omega) (by omega), ?_⟩)
  | ((with_reducible show ∃ _, mixE _ _ _ = some _ ∧ _); refine ⟨_, mix_nil rfl, ?_⟩)
  | ((with_reducible show _ < List.length _ ∧ _); refine ⟨of_decide_eq_true rfl, ?_⟩; (try simp only [List.set_cons_zero, List.set_cons_succ, O.fz, fzs_ints, fzs_purs, keepE_cons, keepE_nil, wipeE]))
  | ((with_reducible show (_ < List.length _ ∧ _) ∧ _); refine ⟨of_decide_eq_true rfl, ?_⟩; (try simp only [List.set_cons_zero, List.set_cons_succ, O.fz, fzs_ints, fzs_purs, keepE_cons, keepE_nil, wipeE]))
  | ((with_reducible show List.length _ ≤ 1000 ∧ _); refine ⟨of_decide_eq_true rfl, ?_⟩; (try simp only [List.set_cons_zero, List.set_cons_succ, O.fz, fzs_ints, fzs_purs, keepE_cons, keepE_nil, wipeE]))
  | ((with_reducible show flatO _ = true ∧ _); refine ⟨rfl, ?_⟩)
  | ((with_reducible show Ev (eaLate _ _) _ _); refine Ev_late rfl ?_)
  | with_reducible refine S_setIx ?_
  | ((with_reducible show EvS (sAugIx _ _ _ _) _ _ _ _ _); refine S_augIx rfl ?_)
  | ((with_reducible show EvS (sAug _ _ _) _ _ _ _ _); refine S_aug rfl ?_)
  | ((with_reducible show ∃ a b c, _ = D.int a ∧ _ ∧ _ ∧ _); refine ⟨_, _, _, rfl, rfl, rfl, ?_⟩; simp only [List.set_cons_zero, List.set_cons_succ, Int.toNat_ofNat, Int.reduceToNat])
  | ((with_reducible show ∃ a b c, _ = D.int a ∧ _ ∧ _ ∧ _); refine ⟨_, _, _, rfl, rfl, rfl, ?_⟩)
  | ((with_reducible show ∃ _, ixD _ _ = some _ ∧ _); refine ⟨_, rfl, ?_⟩)
  | ((with_reducible show ∃ _, lenD _ = some _ ∧ _); refine ⟨_, rfl, ?_⟩)
  | ((with_reducible show ∃ _, absD _ = some _ ∧ _); refine ⟨_, rfl, ?_⟩)
  | ((with_reducible show ∃ _, itemsD _ = some _ ∧ _); refine ⟨_, rfl, ?_⟩)
  | ((with_reducible show ∃ _, tupleD _ = some _ ∧ _); refine ⟨_, rfl, ?_⟩)
  | ((with_reducible show ∃ _, listD _ = some _ ∧ _); refine ⟨_, rfl, ?_⟩)
  | ((with_reducible show ∃ _, listL _ = some _ ∧ _); refine ⟨_, rfl, ?_⟩)
  | ((with_reducible show ∃ _, toIntD _ = some _ ∧ _); refine ⟨_, rfl, ?_⟩)
  | ((with_reducible show ∃ _, isD _ _ = some _ ∧ _); refine ⟨_, rfl, ?_⟩)
  | ((with_reducible show ∃ _, isNotD _ _ = some _ ∧ _); refine ⟨_, rfl, ?_⟩)
  | ((with_reducible show ∃ _, takeS _ _ = some _ ∧ _); refine ⟨_, rfl, ?_⟩)
  | ((with_reducible show ∃ _, fName _ _ _ = some _ ∧ _); refine ⟨_, rfl, ?_⟩; (try simp only [List.set_cons_zero, List.set_cons_succ]))
  | ((with_reducible show ∃ _, fTup _ _ _ _ = some _ ∧ _); refine ⟨_, rfl, ?_⟩; (try simp only [List.set_cons_zero, List.set_cons_succ]))
  | ((with_reducible show ∃ _, slD _ _ _ = some _ ∧ _); refine ⟨_, rfl, ?_⟩)
  | ((with_reducible show ∃ _, slL _ _ _ = some _ ∧ _); refine ⟨_, rfl, ?_⟩)
  | ((with_reducible show ∃ _, List.set _ _ _ = some _ ∧ _); refine ⟨_, rfl, ?_⟩)
  | ((with_reducible show ∃ _, getElem? _ _ = some _ ∧ _); refine ⟨_, rfl, ?_⟩)
  | ((with_reducible show ∃ _, rangeD1 [D.int (Nat.cast _)] = some _ ∧ _); refine ⟨_, range_nat (by omega), ?_⟩) | ((with_reducible show ∃ _, rangeD1 _ = some _ ∧ _); refine ⟨_, range_lit (by omega) (by omega), ?_⟩)
  | ((with_reducible show ∃ _, _ = D.int _ ∧ _); refine ⟨_, rfl, ?_⟩)
  | ((with_reducible show ∃ _, maxD [D.int _, D.int _] = some _ ∧ _); refine ⟨_, rfl, ?_⟩) | ((with_reducible show ∃ _, minD [D.int _, D.int _] = some _ ∧ _); refine ⟨_, rfl, ?_⟩)
  | ((with_reducible show ∃ _, truD _ = some _ ∧ _); refine ⟨_, rfl, ?_⟩)
  | ((with_reducible show ∃ _, _ = D.bl _ ∧ _); refine ⟨_, rfl, ?_⟩)
  | ((with_reducible show ∃ _, neD (.str _) (.str _) = some _ ∧ _); refine ⟨_, ne_str _, ?_⟩) | ((with_reducible show ∃ _, eqD (.str _) (.str _) = some _ ∧ _); refine ⟨_, eq_str _, ?_⟩))
local macro_rules | `(tactic| walk_at "e") => `(tactic| repeat walk_at "e1")
local macro_rules | `(tactic| walk_at "s") => `(tactic| repeat (first | with_reducible refine S_seq ?_ | walk_at "e1"))
local macro_rules | `(tactic| walk_at "n") => `(tactic| try simp only [List.set_cons_zero, List.set_cons_succ, O.fz, fzs_ints, fzs_purs, keepE_cons, keepE_nil, wipeE])
local macro_rules | `(tactic| walk_at "e1") => `(tactic| ((with_reducible show Ev (eCall f_law_take _ _) _ _); refine Ev_take rfl (by assumption) ?_; (try simp only [List.set_cons_zero, List.set_cons_succ])))
local macro_rules | `(tactic| walk_at "e1") => `(tactic| ((with_reducible show ∀ _ _, _ → _ → BagOk _ → _); intro r o' h1 h2 hb; (try simp only [List.set_cons_zero, List.set_cons_succ, O.fz])))
local macro_rules | `(tactic| walk_at "e1") => `(tactic| ((with_reducible show _ < _ ∧ _); refine ⟨by omega, ?_⟩))
local macro_rules | `(tactic| walk_at "e1") => `(tactic| ((with_reducible show Ev (eCall f_law_size _ _) _ _); refine Ev_size rfl (by assumption) ?_; (try simp only [List.set_cons_zero, List.set_cons_succ])))
local macro_rules | `(tactic| walk_at "e1") => `(tactic| ((with_reducible show ∃ _, lenD [D.lst (rowsD _)] = some _ ∧ _); refine ⟨_, rfl, ?_⟩; rw [rowsD_len]))
local macro_rules | `(tactic| walk_at "e1") => `(tactic| ((with_reducible show ∃ _, isaD _ = some _ ∧ _); refine ⟨_, rfl, ?_⟩))
local macro_rules | `(tactic| walk_at "e1") => `(tactic| ((with_reducible show ∃ _, rangeD1 [D.int (_ + 1)] = some _ ∧ _); refine ⟨_, range_succ' (by omega), ?_⟩))
local macro_rules | `(tactic| walk_at "e1") => `(tactic| ((with_reducible show ∃ _, rangeD1 [D.int (1 + _)] = some _ ∧ _); refine ⟨_, range_one_add (by omega) (by omega), ?_⟩))
local macro_rules | `(tactic| walk_at "e1") => `(tactic| ((with_reducible show EvS (sFrz _ _) _ _ _ _ _); refine S_frz rfl ?_; (try simp only [List.set_cons_zero, List.set_cons_succ, O.fz, fzs, fzs_ints, fzs_purs])))
local macro_rules | `(tactic| walk_at "e1") => `(tactic| first | with_reducible refine S_par2 ?_ | with_reducible refine S_par3 ?_)
local macro_rules | `(tactic| walk_at "e1") => `(tactic| ((with_reducible show ∃ o1 o2 : O, _ = [o1, o2] ∧ _); refine ⟨_, _, rfl, ?_⟩))
local macro_rules | `(tactic| walk_at "e1") => `(tactic| ((with_reducible show ∃ o1 o2 o3 : O, _ = [o1, o2, o3] ∧ _); refine ⟨_, _, _, rfl, ?_⟩))
local macro_rules | `(tactic| walk_at "e1") => `(tactic| ((with_reducible show (_ < List.length _ ∧ _ < List.length _ ∧ _ < List.length _) ∧ _); refine ⟨of_decide_eq_true rfl, ?_⟩; (try simp only [List.set_cons_zero, List.set_cons_succ, O.fz, fzs_ints, fzs_purs, keepE_cons, keepE_nil, wipeE])))
local macro_rules | `(tactic| walk_at "e1") => `(tactic| first
  | ((with_reducible show Ev (eMCallD _ _ _ _ _) _ _); refine Ev_mcallD (fun _ _ _ h => runB_nil h) ?_)
  | ((with_reducible show Ev (eMCallK _ _ _ _ _ _) _ _); refine Ev_mcallK (fun _ _ _ h => runB_nil h) ?_)
  | ((with_reducible show Ev (eCallK _ _ _) _ _); refine Ev_callK (fun _ _ _ h => runB_nil h) ?_)
  | with_reducible refine Ev_make ?_
  | ((with_reducible show ∃ _, fldD "Endless" "wide" (endD _ _) = some _ ∧ _); refine ⟨_, end_wide, ?_⟩)
  | ((with_reducible show ∃ _, fldD "Endless" "rows" (endD _ _) = some _ ∧ _); refine ⟨_, end_rows, ?_⟩)
  | ((with_reducible show ∃ _, fldD "Endless" "sums" (endD _ _) = some _ ∧ _); refine ⟨_, end_sums, ?_⟩)
  | ((with_reducible show isIns _ _ (endD _ _) = true ∧ _); refine ⟨rfl, ?_⟩)
  | ((with_reducible show ∃ _, divmodD [D.int _, D.int _] = some _ ∧ _); refine ⟨_, divmod_ii (by omega) (by omega), ?_⟩)
  | ((with_reducible show ∃ _, lenD [mapL _ _] = some _ ∧ _); refine ⟨_, mapL_len, ?_⟩)
  | ((with_reducible show ∃ _, itemsD (mapL _ _) = some _ ∧ _); refine ⟨_, mapL_items, ?_⟩)
  | ((with_reducible show (if isNon (D.int _) = true then _ else _)); rw [if_neg (show ¬ (isNon (D.int _) = true) from Bool.false_ne_true)])
  | ((with_reducible show (if isNon D.non = true then _ else _)); rw [if_pos (show isNon D.non = true from rfl)])
  | ((with_reducible show (if (!isNon (D.int _)) = true then _ else _)); rw [if_pos (show (!isNon (D.int _)) = true from rfl)])
  | ((with_reducible show (if (!isNon D.non) = true then _ else _)); rw [if_neg (show ¬ ((!isNon D.non) = true) from Bool.false_ne_true)])
  | ((with_reducible show (if isNon (mapL _ _) = true then _ else _)); rw [if_neg (show ¬ (isNon (mapL _ _) = true) from Bool.false_ne_true)])
  | ((with_reducible show (if isNon (jD none) = true then _ else _)); rw [if_pos (show isNon (jD none) = true from rfl)])
  | ((with_reducible show (if isNon (jD (some _)) = true then _ else _)); rw [if_neg (show ¬ (isNon (jD (some _)) = true) from Bool.false_ne_true)])
  | ((with_reducible show (if (!isNon (jD none)) = true then _ else _)); rw [if_neg (show ¬ ((!isNon (jD none)) = true) from Bool.false_ne_true)])
  | ((with_reducible show (if (!isNon (jD (some _))) = true then _ else _)); rw [if_pos (show (!isNon (jD (some _))) = true from rfl)])
  | with_reducible refine Ev_methT ?_)
/-! the endless log's totals -/
/-- a map that moves with the block -/
def Per (N : Nat) (F : Nat → Nat) : Prop := ∀ n k, F (n + k * N) = F n + k * N
theorem Per.at {N : Nat} {F : Nat → Nat} (h : Per N F) (n : Nat) : F n = F (n % N) + n / N * N := by
  have := h (n % N) (n / N)
  rwa [show n % N + n / N * N = n by rw [Nat.mul_comm]; exact Nat.mod_add_div n N] at this
/-! the program's defs -/
/-! many times -/
/-! kinds -/
theorem fz_map_pur {α : Type} (l : List α) (f : α → D) : (O.lst (l.map fun x => O.pur (f x))).fz = .lst (l.map f) := by
  rw [show (l.map fun x => O.pur (f x)) = (l.map f).map O.pur by rw [List.map_map]; rfl]
  simp only [O.fz, fzs_purs]
/-! making -/
end DL.Sh
set_option Elab.async false
set_option linter.all false
set_option maxRecDepth 100000
set_option maxHeartbeats 4000000
namespace DL.Sh
open PySem PySem.Spec PyProof.Rows L2
/-- one step backwards -/
local macro_rules | `(tactic| walk_at "e1") => `(tactic| first
  | with_reducible refine S_next ?_ | with_reducible refine S_ret ?_ | with_reducible refine S_drop ?_ | with_reducible refine S_if ?_ | with_reducible refine S_for ?_
  | with_reducible refine Ev_C ?_ | with_reducible refine Ev_fz ?_ | with_reducible refine Ev_pur ?_ | with_reducible refine Ev_op2 ?_ | with_reducible refine Ev_top2 ?_ | with_reducible refine Ev_op1 ?_ | with_reducible refine Ev_val ?_
  | with_reducible refine Ev_tand ?_ | with_reducible refine Ev_tor ?_ | with_reducible refine Ev_tnot ?_ | with_reducible refine Ev_and ?_ | with_reducible refine Ev_or ?_ | with_reducible refine Ev_not ?_ | with_reducible refine Ev_if ?_
  | with_reducible refine Ev_anil ?_ | with_reducible refine Ev_acons ?_ | with_reducible refine Ev_eanil ?_ | with_reducible refine Ev_eacons ?_ | with_reducible refine Ev_call ?_ | with_reducible refine Ev_onone ?_ | with_reducible refine Ev_osome ?_
  | with_reducible refine Ev_sl ?_ | with_reducible refine Ev_esl ?_ | with_reducible refine Ev_eop2 ?_ | with_reducible refine Ev_eargs ?_ | with_reducible refine Ev_iseq ?_ | with_reducible refine Ev_iargs ?_ | with_reducible refine Ev_yes ?_
  | with_reducible refine Ev_chain ?_ | with_reducible refine Ev_tchain ?_
  | (with_reducible refine Ev_tbor ?_; simp only [frzE, Option.map_some, Option.map_none, O.fz, fzs, fzs_ints, fzs_purs])
  | (with_reducible refine Ev_bor ?_; simp only [frzE, Option.map_some, Option.map_none, O.fz, fzs, fzs_ints, fzs_purs])
  | ((with_reducible show (if (!true) = true then _ else _)); rw [if_neg (by decide)]) | ((with_reducible show (if (!false) = true then _ else _)); rw [if_pos (by decide)])
  | with_reducible refine Ev_call1 ?_ | ((with_reducible show (if true = true then _ else _)); rw [if_pos rfl]) | ((with_reducible show (if false = true then _ else _)); rw [if_neg Bool.false_ne_true])
  | ((with_reducible show Ev (dVar _) _ _); refine Ev_var rfl ?_)
  | ((with_reducible show Ev (eMove _) _ _); refine Ev_move rfl ?_; (try simp only [List.set_cons_zero, List.set_cons_succ]))
  | ((with_reducible refine S_set ?_))
  | (with_reducible refine S_asg ?_)
  | ((with_reducible refine Ev_tup ?_)) | ((with_reducible refine Ev_lst ?_)) | ((with_reducible refine Ev_elst ?_)) | ((with_reducible refine Ev_etup ?_))
  | ((with_reducible show ∃ _, powD _ _ = some _ ∧ _); refine ⟨_, pow18, ?_⟩) | ((with_reducible show ∃ _, powD _ _ = some _ ∧ _); refine ⟨_, rfl, ?_⟩; simp only [Int.reduceToNat, Int.reducePow]) | ((with_reducible show ∃ _, addD _ _ = some _ ∧ _); refine ⟨_, add_ii _ _, ?_⟩) | ((with_reducible show ∃ _, eqD _ _ = some _ ∧ _); refine ⟨_, eq_dec _ _, ?_⟩) | ((with_reducible show ∃ _, neD _ _ = some _ ∧ _); refine ⟨_, ne_dec _ _, ?_⟩) | ((with_reducible show ∃ _, ltD _ _ = some _ ∧ _); refine ⟨_, lt_dec _ _, ?_⟩) | ((with_reducible show ∃ _, leD _ _ = some _ ∧ _); refine ⟨_, le_dec _ _, ?_⟩) | ((with_reducible show ∃ _, gtD _ _ = some _ ∧ _); refine ⟨_, gt_dec _ _, ?_⟩) | ((with_reducible show ∃ _, geD _ _ = some _ ∧ _); refine ⟨_, ge_dec _ _, ?_⟩) | ((with_reducible show ∃ _, subD _ _ = some _ ∧ _); refine ⟨_, sub_ii _ _, ?_⟩) | ((with_reducible show ∃ _, negD _ = some _ ∧ _); refine ⟨_, neg_i _, ?_⟩)
  | ((with_reducible show ∃ _, mulD _ _ = some _ ∧ _); refine ⟨_, mul_ii (by omega), ?_⟩) | ((with_reducible show ∃ _, modD _ _ = some _ ∧ _); refine ⟨_, mod_ii (by omega), ?_⟩) | ((with_reducible show ∃ _, divD _ _ = some _ ∧ _); refine ⟨_, div_ii (by omega) (by omega), ?_⟩)
  | ((with_reducible show ∃ _, mixE _ _ _ = some _ ∧ _); refine ⟨_, mix_nil rfl, ?_⟩)
  | ((with_reducible show _ < List.length _ ∧ _); refine ⟨of_decide_eq_true rfl, ?_⟩; (try simp only [List.set_cons_zero, List.set_cons_succ, O.fz, fzs_ints, fzs_purs, keepE_cons, keepE_nil, wipeE]))
  | ((with_reducible show (_ < List.length _ ∧ _) ∧ _); refine ⟨of_decide_eq_true rfl, ?_⟩; (try simp only [List.set_cons_zero, List.set_cons_succ, O.fz, fzs_ints, fzs_purs, keepE_cons, keepE_nil, wipeE]))
  | ((with_reducible show List.length _ ≤ 1000 ∧ _); refine ⟨of_decide_eq_true rfl, ?_⟩; (try simp only [List.set_cons_zero, List.set_cons_succ, O.fz, fzs_ints, fzs_purs, keepE_cons, keepE_nil, wipeE]))
  | ((with_reducible show flatO _ = true ∧ _); refine ⟨rfl, ?_⟩)
  | ((with_reducible show Ev (eaLate _ _) _ _); refine Ev_late rfl ?_)
  | with_reducible refine S_setIx ?_
  | ((with_reducible show EvS (sAugIx _ _ _ _) _ _ _ _ _); refine S_augIx rfl ?_)
  | ((with_reducible show EvS (sAug _ _ _) _ _ _ _ _); refine S_aug rfl ?_)
  | ((with_reducible show ∃ a b c, _ = D.int a ∧ _ ∧ _ ∧ _); refine ⟨_, _, _, rfl, rfl, rfl, ?_⟩; simp only [List.set_cons_zero, List.set_cons_succ, Int.toNat_ofNat, Int.reduceToNat])
  | ((with_reducible show ∃ a b c, _ = D.int a ∧ _ ∧ _ ∧ _); refine ⟨_, _, _, rfl, rfl, rfl, ?_⟩)
  | ((with_reducible show ∃ _, ixD _ _ = some _ ∧ _); refine ⟨_, rfl, ?_⟩)
  | ((with_reducible show ∃ _, lenD _ = some _ ∧ _); refine ⟨_, rfl, ?_⟩)
  | ((with_reducible show ∃ _, absD _ = some _ ∧ _); refine ⟨_, rfl, ?_⟩)
  | ((with_reducible show ∃ _, itemsD _ = some _ ∧ _); refine ⟨_, rfl, ?_⟩)
  | ((with_reducible show ∃ _, tupleD _ = some _ ∧ _); refine ⟨_, rfl, ?_⟩)
  | ((with_reducible show ∃ _, listD _ = some _ ∧ _); refine ⟨_, rfl, ?_⟩)
  | ((with_reducible show ∃ _, listL _ = some _ ∧ _); refine ⟨_, rfl, ?_⟩)
  | ((with_reducible show ∃ _, toIntD _ = some _ ∧ _); refine ⟨_, rfl, ?_⟩)
  | ((with_reducible show ∃ _, isD _ _ = some _ ∧ _); refine ⟨_, rfl, ?_⟩)
  | ((with_reducible show ∃ _, isNotD _ _ = some _ ∧ _); refine ⟨_, rfl, ?_⟩)
  | ((with_reducible show ∃ _, takeS _ _ = some _ ∧ _); refine ⟨_, rfl, ?_⟩)
  | ((with_reducible show ∃ _, fName _ _ _ = some _ ∧ _); refine ⟨_, rfl, ?_⟩; (try simp only [List.set_cons_zero, List.set_cons_succ]))
  | ((with_reducible show ∃ _, fTup _ _ _ _ = some _ ∧ _); refine ⟨_, rfl, ?_⟩; (try simp only [List.set_cons_zero, List.set_cons_succ]))
  | ((with_reducible show ∃ _, slD _ _ _ = some _ ∧ _); refine ⟨_, rfl, ?_⟩)
  | ((with_reducible show ∃ _, slL _ _ _ = some _ ∧ _); refine ⟨_, rfl, ?_⟩)
  | ((with_reducible show ∃ _, List.set _ _ _ = some _ ∧ _); refine ⟨_, rfl, ?_⟩)
  | ((with_reducible show ∃ _, getElem? _ _ = some _ ∧ _); refine ⟨_, rfl, ?_⟩)
  | ((with_reducible show ∃ _, rangeD1 [D.int (Nat.cast _)] = some _ ∧ _); refine ⟨_, range_nat (by omega), ?_⟩) | ((with_reducible show ∃ _, rangeD1 _ = some _ ∧ _); refine ⟨_, range_lit (by omega) (by omega), ?_⟩)
  | ((with_reducible show ∃ _, _ = D.int _ ∧ _); refine ⟨_, rfl, ?_⟩)
  | ((with_reducible show ∃ _, maxD [D.int _, D.int _] = some _ ∧ _); refine ⟨_, rfl, ?_⟩) | ((with_reducible show ∃ _, minD [D.int _, D.int _] = some _ ∧ _); refine ⟨_, rfl, ?_⟩)
  | ((with_reducible show ∃ _, truD _ = some _ ∧ _); refine ⟨_, rfl, ?_⟩)
  | ((with_reducible show ∃ _, _ = D.bl _ ∧ _); refine ⟨_, rfl, ?_⟩)
  | ((with_reducible show ∃ _, neD (.str _) (.str _) = some _ ∧ _); refine ⟨_, ne_str _, ?_⟩) | ((with_reducible show ∃ _, eqD (.str _) (.str _) = some _ ∧ _); refine ⟨_, eq_str _, ?_⟩))
local macro_rules | `(tactic| walk_at "e") => `(tactic| repeat walk_at "e1")
local macro_rules | `(tactic| walk_at "s") => `(tactic| repeat (first | with_reducible refine S_seq ?_ | walk_at "e1"))
local macro_rules | `(tactic| walk_at "n") => `(tactic| try simp only [List.set_cons_zero, List.set_cons_succ, O.fz, fzs_ints, fzs_purs, keepE_cons, keepE_nil, wipeE])
local macro_rules | `(tactic| walk_at "e1") => `(tactic| ((with_reducible show Ev (eCall f_law_take _ _) _ _); refine Ev_take rfl (by assumption) ?_; (try simp only [List.set_cons_zero, List.set_cons_succ])))
local macro_rules | `(tactic| walk_at "e1") => `(tactic| ((with_reducible show ∀ _ _, _ → _ → BagOk _ → _); intro r o' h1 h2 hb; (try simp only [List.set_cons_zero, List.set_cons_succ, O.fz])))
local macro_rules | `(tactic| walk_at "e1") => `(tactic| ((with_reducible show _ < _ ∧ _); refine ⟨by omega, ?_⟩))
local macro_rules | `(tactic| walk_at "e1") => `(tactic| ((with_reducible show Ev (eCall f_law_size _ _) _ _); refine Ev_size rfl (by assumption) ?_; (try simp only [List.set_cons_zero, List.set_cons_succ])))
local macro_rules | `(tactic| walk_at "e1") => `(tactic| ((with_reducible show ∃ _, lenD [D.lst (rowsD _)] = some _ ∧ _); refine ⟨_, rfl, ?_⟩; rw [rowsD_len]))
local macro_rules | `(tactic| walk_at "e1") => `(tactic| ((with_reducible show ∃ _, isaD _ = some _ ∧ _); refine ⟨_, rfl, ?_⟩))
local macro_rules | `(tactic| walk_at "e1") => `(tactic| ((with_reducible show ∃ _, rangeD1 [D.int (_ + 1)] = some _ ∧ _); refine ⟨_, range_succ' (by omega), ?_⟩))
local macro_rules | `(tactic| walk_at "e1") => `(tactic| ((with_reducible show ∃ _, rangeD1 [D.int (1 + _)] = some _ ∧ _); refine ⟨_, range_one_add (by omega) (by omega), ?_⟩))
local macro_rules | `(tactic| walk_at "e1") => `(tactic| ((with_reducible show EvS (sFrz _ _) _ _ _ _ _); refine S_frz rfl ?_; (try simp only [List.set_cons_zero, List.set_cons_succ, O.fz, fzs, fzs_ints, fzs_purs])))
local macro_rules | `(tactic| walk_at "e1") => `(tactic| first | with_reducible refine S_par2 ?_ | with_reducible refine S_par3 ?_)
local macro_rules | `(tactic| walk_at "e1") => `(tactic| ((with_reducible show ∃ o1 o2 : O, _ = [o1, o2] ∧ _); refine ⟨_, _, rfl, ?_⟩))
local macro_rules | `(tactic| walk_at "e1") => `(tactic| ((with_reducible show ∃ o1 o2 o3 : O, _ = [o1, o2, o3] ∧ _); refine ⟨_, _, _, rfl, ?_⟩))
local macro_rules | `(tactic| walk_at "e1") => `(tactic| ((with_reducible show (_ < List.length _ ∧ _ < List.length _ ∧ _ < List.length _) ∧ _); refine ⟨of_decide_eq_true rfl, ?_⟩; (try simp only [List.set_cons_zero, List.set_cons_succ, O.fz, fzs_ints, fzs_purs, keepE_cons, keepE_nil, wipeE])))
local macro_rules | `(tactic| walk_at "e1") => `(tactic| first
  | ((with_reducible show Ev (eMCallD _ _ _ _ _) _ _); refine Ev_mcallD (fun _ _ _ h => runB_nil h) ?_)
  | ((with_reducible show Ev (eMCallK _ _ _ _ _ _) _ _); refine Ev_mcallK (fun _ _ _ h => runB_nil h) ?_)
  | ((with_reducible show Ev (eCallK _ _ _) _ _); refine Ev_callK (fun _ _ _ h => runB_nil h) ?_)
  | with_reducible refine Ev_make ?_
  | ((with_reducible show ∃ _, fldD "Endless" "wide" (endD _ _) = some _ ∧ _); refine ⟨_, end_wide, ?_⟩)
  | ((with_reducible show ∃ _, fldD "Endless" "rows" (endD _ _) = some _ ∧ _); refine ⟨_, end_rows, ?_⟩)
  | ((with_reducible show ∃ _, fldD "Endless" "sums" (endD _ _) = some _ ∧ _); refine ⟨_, end_sums, ?_⟩)
  | ((with_reducible show isIns _ _ (endD _ _) = true ∧ _); refine ⟨rfl, ?_⟩)
  | ((with_reducible show ∃ _, divmodD [D.int _, D.int _] = some _ ∧ _); refine ⟨_, divmod_ii (by omega) (by omega), ?_⟩)
  | ((with_reducible show ∃ _, lenD [mapL _ _] = some _ ∧ _); refine ⟨_, mapL_len, ?_⟩)
  | ((with_reducible show ∃ _, itemsD (mapL _ _) = some _ ∧ _); refine ⟨_, mapL_items, ?_⟩)
  | ((with_reducible show (if isNon (D.int _) = true then _ else _)); rw [if_neg (show ¬ (isNon (D.int _) = true) from Bool.false_ne_true)])
  | ((with_reducible show (if isNon D.non = true then _ else _)); rw [if_pos (show isNon D.non = true from rfl)])
  | ((with_reducible show (if (!isNon (D.int _)) = true then _ else _)); rw [if_pos (show (!isNon (D.int _)) = true from rfl)])
  | ((with_reducible show (if (!isNon D.non) = true then _ else _)); rw [if_neg (show ¬ ((!isNon D.non) = true) from Bool.false_ne_true)])
  | ((with_reducible show (if isNon (mapL _ _) = true then _ else _)); rw [if_neg (show ¬ (isNon (mapL _ _) = true) from Bool.false_ne_true)])
  | ((with_reducible show (if isNon (jD none) = true then _ else _)); rw [if_pos (show isNon (jD none) = true from rfl)])
  | ((with_reducible show (if isNon (jD (some _)) = true then _ else _)); rw [if_neg (show ¬ (isNon (jD (some _)) = true) from Bool.false_ne_true)])
  | ((with_reducible show (if (!isNon (jD none)) = true then _ else _)); rw [if_neg (show ¬ ((!isNon (jD none)) = true) from Bool.false_ne_true)])
  | ((with_reducible show (if (!isNon (jD (some _))) = true then _ else _)); rw [if_pos (show (!isNon (jD (some _))) = true from rfl)])
  | with_reducible refine Ev_methT ?_)
/-! the simple methods -/
/-! the next one, by trial -/
/-! through all tiers, by trial -/
/-! the block, its tiers -/
/-! a total, by laps -/
/-! how far -/
/-! alike -/
end DL.Sh
set_option Elab.async false
set_option linter.all false
set_option maxRecDepth 100000
set_option maxHeartbeats 4000000
namespace DL.Sh
open PySem PySem.Spec PyProof.Rows L2
/-- one step backwards -/
local macro_rules | `(tactic| walk_at "e1") => `(tactic| first
  | with_reducible refine S_next ?_ | with_reducible refine S_ret ?_ | with_reducible refine S_drop ?_ | with_reducible refine S_if ?_ | with_reducible refine S_for ?_
  | with_reducible refine Ev_C ?_ | with_reducible refine Ev_fz ?_ | with_reducible refine Ev_pur ?_ | with_reducible refine Ev_op2 ?_ | with_reducible refine Ev_top2 ?_ | with_reducible refine Ev_op1 ?_ | with_reducible refine Ev_val ?_
  | with_reducible refine Ev_tand ?_ | with_reducible refine Ev_tor ?_ | with_reducible refine Ev_tnot ?_ | with_reducible refine Ev_and ?_ | with_reducible refine Ev_or ?_ | with_reducible refine Ev_not ?_ | with_reducible refine Ev_if ?_
  | with_reducible refine Ev_anil ?_ | with_reducible refine Ev_acons ?_ | with_reducible refine Ev_eanil ?_ | with_reducible refine Ev_eacons ?_ | with_reducible refine Ev_call ?_ | with_reducible refine Ev_onone ?_ | with_reducible refine Ev_osome ?_
  | with_reducible refine Ev_sl ?_ | with_reducible refine Ev_esl ?_ | with_reducible refine Ev_eop2 ?_ | with_reducible refine Ev_eargs ?_ | with_reducible refine Ev_iseq ?_ | with_reducible refine Ev_iargs ?_ | with_reducible refine Ev_yes ?_
  | with_reducible refine Ev_chain ?_ | with_reducible refine Ev_tchain ?_
  | (with_reducible refine Ev_tbor ?_; simp only [frzE, Option.map_some, Option.map_none, O.fz, fzs, fzs_ints, fzs_purs])
  | (with_reducible refine Ev_bor ?_; simp only [frzE, Option.map_some, Option.map_none, O.fz, fzs, fzs_ints, fzs_purs])
  | ((with_reducible show (if (!true) = true then _ else _)); rw [if_neg (by decide)]) | ((with_reducible show (if (!false) = true then _ else _)); rw [if_pos (by decide)])
  | with_reducible refine Ev_call1 ?_ | ((with_reducible show (if true = true then _ else _)); rw [if_pos rfl]) | ((with_reducible show (if false = true then _ else _)); rw [if_neg Bool.false_ne_true])
  | ((with_reducible show Ev (dVar _) _ _); refine Ev_var rfl ?_)
  | ((with_reducible show Ev (eMove _) _ _); refine Ev_move rfl ?_; (try simp only [List.set_cons_zero, List.set_cons_succ]))
  | ((with_reducible refine S_set ?_))
  | (with_reducible refine S_asg ?_)
  | ((with_reducible refine Ev_tup ?_)) | ((with_reducible refine Ev_lst ?_)) | ((with_reducible refine Ev_elst ?_)) | ((with_reducible refine Ev_etup ?_))
  | ((with_reducible show ∃ _, powD _ _ = some _ ∧ _); refine ⟨_, pow18, ?_⟩) | ((with_reducible show ∃ _, powD _ _ = some _ ∧ _); refine ⟨_, rfl, ?_⟩; simp only [Int.reduceToNat, Int.reducePow]) | ((with_reducible show ∃ _, addD _ _ = some _ ∧ _); refine ⟨_, add_ii _ _, ?_⟩) | ((with_reducible show ∃ _, eqD _ _ = some _ ∧ _); refine ⟨_, eq_dec _ _, ?_⟩) | ((with_reducible show ∃ _, neD _ _ = some _ ∧ _); refine ⟨_, ne_dec _ _, ?_⟩) | ((with_reducible show ∃ _, ltD _ _ = some _ ∧ _); refine ⟨_, lt_dec _ _, ?_⟩) | ((with_reducible show ∃ _, leD _ _ = some _ ∧ _); refine ⟨_, le_dec _ _, ?_⟩) | ((with_reducible show ∃ _, gtD _ _ = some _ ∧ _); refine ⟨_, gt_dec _ _, ?_⟩) | ((with_reducible show ∃ _, geD _ _ = some _ ∧ _); refine ⟨_, ge_dec _ _, ?_⟩) | ((with_reducible show ∃ _, subD _ _ = some _ ∧ _); refine ⟨_, sub_ii _ _, ?_⟩) | ((with_reducible show ∃ _, negD _ = some _ ∧ _); refine ⟨_, neg_i _, ?_⟩)
  | ((with_reducible show ∃ _, mulD _ _ = some _ ∧ _); refine ⟨_, mul_ii (by omega), ?_⟩) | ((with_reducible show ∃ _, modD _ _ = some _ ∧ _); refine ⟨_, mod_ii (by omega), ?_⟩) | ((with_reducible show ∃ _, divD _ _ = some _ ∧ _); refine ⟨_, div_ii (by omega) (by omega), ?_⟩)
  | ((with_reducible show ∃ _, mixE _ _ _ = some _ ∧ _); refine ⟨_, mix_nil rfl, ?_⟩)
  | ((with_reducible show _ < List.length _ ∧ _); refine ⟨of_decide_eq_true rfl, ?_⟩; (try simp only [List.set_cons_zero, List.set_cons_succ, O.fz, fzs_ints, fzs_purs, keepE_cons, keepE_nil, wipeE]))
  | ((with_reducible show (_ < List.length _ ∧ _) ∧ _); refine ⟨of_decide_eq_true rfl, ?_⟩; (try simp only [List.set_cons_zero, List.set_cons_succ, O.fz, fzs_ints, fzs_purs, keepE_cons, keepE_nil, wipeE]))
  | ((with_reducible show List.length _ ≤ 1000 ∧ _); refine ⟨of_decide_eq_true rfl, ?_⟩; (try simp only [List.set_cons_zero, List.set_cons_succ, O.fz, fzs_ints, fzs_purs, keepE_cons, keepE_nil, wipeE]))
  | ((with_reducible show flatO _ = true ∧ _); refine ⟨rfl, ?_⟩)
  | ((with_reducible show Ev (eaLate _ _) _ _); refine Ev_late rfl ?_)
  | with_reducible refine S_setIx ?_
  | ((with_reducible show EvS (sAugIx _ _ _ _) _ _ _ _ _); refine S_augIx rfl ?_)
  | ((with_reducible show EvS (sAug _ _ _) _ _ _ _ _); refine S_aug rfl ?_)
  | ((with_reducible show ∃ a b c, _ = D.int a ∧ _ ∧ _ ∧ _); refine ⟨_, _, _, rfl, rfl, rfl, ?_⟩; simp only [List.set_cons_zero, List.set_cons_succ, Int.toNat_ofNat, Int.reduceToNat])
  | ((with_reducible show ∃ a b c, _ = D.int a ∧ _ ∧ _ ∧ _); refine ⟨_, _, _, rfl, rfl, rfl, ?_⟩)
  | ((with_reducible show ∃ _, ixD _ _ = some _ ∧ _); refine ⟨_, rfl, ?_⟩)
  | ((with_reducible show ∃ _, lenD _ = some _ ∧ _); refine ⟨_, rfl, ?_⟩)
  | ((with_reducible show ∃ _, absD _ = some _ ∧ _); refine ⟨_, rfl, ?_⟩)
  | ((with_reducible show ∃ _, itemsD _ = some _ ∧ _); refine ⟨_, rfl, ?_⟩)
  | ((with_reducible show ∃ _, tupleD _ = some _ ∧ _); refine ⟨_, rfl, ?_⟩)
  | ((with_reducible show ∃ _, listD _ = some _ ∧ _); refine ⟨_, rfl, ?_⟩)
  | ((with_reducible show ∃ _, listL _ = some _ ∧ _); refine ⟨_, rfl, ?_⟩)
  | ((with_reducible show ∃ _, toIntD _ = some _ ∧ _); refine ⟨_, rfl, ?_⟩)
  | ((with_reducible show ∃ _, isD _ _ = some _ ∧ _); refine ⟨_, rfl, ?_⟩)
  | ((with_reducible show ∃ _, isNotD _ _ = some _ ∧ _); refine ⟨_, rfl, ?_⟩)
  | ((with_reducible show ∃ _, takeS _ _ = some _ ∧ _); refine ⟨_, rfl, ?_⟩)
  | ((with_reducible show ∃ _, fName _ _ _ = some _ ∧ _); refine ⟨_, rfl, ?_⟩; (try simp only [List.set_cons_zero, List.set_cons_succ]))
  | ((with_reducible show ∃ _, fTup _ _ _ _ = some _ ∧ _); refine ⟨_, rfl, ?_⟩; (try simp only [List.set_cons_zero, List.set_cons_succ]))
  | ((with_reducible show ∃ _, slD _ _ _ = some _ ∧ _); refine ⟨_, rfl, ?_⟩)
  | ((with_reducible show ∃ _, slL _ _ _ = some _ ∧ _); refine ⟨_, rfl, ?_⟩)
  | ((with_reducible show ∃ _, List.set _ _ _ = some _ ∧ _); refine ⟨_, rfl, ?_⟩)
  | ((with_reducible show ∃ _, getElem? _ _ = some _ ∧ _); refine ⟨_, rfl, ?_⟩)
  | ((with_reducible show ∃ _, rangeD1 [D.int (Nat.cast _)] = some _ ∧ _); refine ⟨_, range_nat (by omega), ?_⟩) | ((with_reducible show ∃ _, rangeD1 _ = some _ ∧ _); refine ⟨_, range_lit (by omega) (by omega), ?_⟩)
  | ((with_reducible show ∃ _, _ = D.int _ ∧ _); refine ⟨_, rfl, ?_⟩)
  | ((with_reducible show ∃ _, maxD [D.int _, D.int _] = some _ ∧ _); refine ⟨_, rfl, ?_⟩) | ((with_reducible show ∃ _, minD [D.int _, D.int _] = some _ ∧ _); refine ⟨_, rfl, ?_⟩)
  | ((with_reducible show ∃ _, truD _ = some _ ∧ _); refine ⟨_, rfl, ?_⟩)
  | ((with_reducible show ∃ _, _ = D.bl _ ∧ _); refine ⟨_, rfl, ?_⟩)
  | ((with_reducible show ∃ _, neD (.str _) (.str _) = some _ ∧ _); refine ⟨_, ne_str _, ?_⟩) | ((with_reducible show ∃ _, eqD (.str _) (.str _) = some _ ∧ _); refine ⟨_, eq_str _, ?_⟩))
local macro_rules | `(tactic| walk_at "e") => `(tactic| repeat walk_at "e1")
local macro_rules | `(tactic| walk_at "s") => `(tactic| repeat (first | with_reducible refine S_seq ?_ | walk_at "e1"))
local macro_rules | `(tactic| walk_at "n") => `(tactic| try simp only [List.set_cons_zero, List.set_cons_succ, O.fz, fzs_ints, fzs_purs, keepE_cons, keepE_nil, wipeE])
local macro_rules | `(tactic| walk_at "e1") => `(tactic| ((with_reducible show Ev (eCall f_law_take _ _) _ _); refine Ev_take rfl (by assumption) ?_; (try simp only [List.set_cons_zero, List.set_cons_succ])))
local macro_rules | `(tactic| walk_at "e1") => `(tactic| ((with_reducible show ∀ _ _, _ → _ → BagOk _ → _); intro r o' h1 h2 hb; (try simp only [List.set_cons_zero, List.set_cons_succ, O.fz])))
local macro_rules | `(tactic| walk_at "e1") => `(tactic| ((with_reducible show _ < _ ∧ _); refine ⟨by omega, ?_⟩))
local macro_rules | `(tactic| walk_at "e1") => `(tactic| ((with_reducible show Ev (eCall f_law_size _ _) _ _); refine Ev_size rfl (by assumption) ?_; (try simp only [List.set_cons_zero, List.set_cons_succ])))
local macro_rules | `(tactic| walk_at "e1") => `(tactic| ((with_reducible show ∃ _, lenD [D.lst (rowsD _)] = some _ ∧ _); refine ⟨_, rfl, ?_⟩; rw [rowsD_len]))
local macro_rules | `(tactic| walk_at "e1") => `(tactic| ((with_reducible show ∃ _, isaD _ = some _ ∧ _); refine ⟨_, rfl, ?_⟩))
local macro_rules | `(tactic| walk_at "e1") => `(tactic| ((with_reducible show ∃ _, rangeD1 [D.int (_ + 1)] = some _ ∧ _); refine ⟨_, range_succ' (by omega), ?_⟩))
local macro_rules | `(tactic| walk_at "e1") => `(tactic| ((with_reducible show ∃ _, rangeD1 [D.int (1 + _)] = some _ ∧ _); refine ⟨_, range_one_add (by omega) (by omega), ?_⟩))
local macro_rules | `(tactic| walk_at "e1") => `(tactic| ((with_reducible show EvS (sFrz _ _) _ _ _ _ _); refine S_frz rfl ?_; (try simp only [List.set_cons_zero, List.set_cons_succ, O.fz, fzs, fzs_ints, fzs_purs])))
local macro_rules | `(tactic| walk_at "e1") => `(tactic| first | with_reducible refine S_par2 ?_ | with_reducible refine S_par3 ?_)
local macro_rules | `(tactic| walk_at "e1") => `(tactic| ((with_reducible show ∃ o1 o2 : O, _ = [o1, o2] ∧ _); refine ⟨_, _, rfl, ?_⟩))
local macro_rules | `(tactic| walk_at "e1") => `(tactic| ((with_reducible show ∃ o1 o2 o3 : O, _ = [o1, o2, o3] ∧ _); refine ⟨_, _, _, rfl, ?_⟩))
local macro_rules | `(tactic| walk_at "e1") => `(tactic| ((with_reducible show (_ < List.length _ ∧ _ < List.length _ ∧ _ < List.length _) ∧ _); refine ⟨of_decide_eq_true rfl, ?_⟩; (try simp only [List.set_cons_zero, List.set_cons_succ, O.fz, fzs_ints, fzs_purs, keepE_cons, keepE_nil, wipeE])))
local macro_rules | `(tactic| walk_at "e1") => `(tactic| first
  | ((with_reducible show Ev (eMCallD _ _ _ _ _) _ _); refine Ev_mcallD (fun _ _ _ h => runB_nil h) ?_)
  | ((with_reducible show Ev (eMCallK _ _ _ _ _ _) _ _); refine Ev_mcallK (fun _ _ _ h => runB_nil h) ?_)
  | ((with_reducible show Ev (eCallK _ _ _) _ _); refine Ev_callK (fun _ _ _ h => runB_nil h) ?_)
  | with_reducible refine Ev_make ?_
  | ((with_reducible show ∃ _, fldD "Endless" "wide" (endD _ _) = some _ ∧ _); refine ⟨_, end_wide, ?_⟩)
  | ((with_reducible show ∃ _, fldD "Endless" "rows" (endD _ _) = some _ ∧ _); refine ⟨_, end_rows, ?_⟩)
  | ((with_reducible show ∃ _, fldD "Endless" "sums" (endD _ _) = some _ ∧ _); refine ⟨_, end_sums, ?_⟩)
  | ((with_reducible show isIns _ _ (endD _ _) = true ∧ _); refine ⟨rfl, ?_⟩)
  | ((with_reducible show ∃ _, divmodD [D.int _, D.int _] = some _ ∧ _); refine ⟨_, divmod_ii (by omega) (by omega), ?_⟩)
  | ((with_reducible show ∃ _, lenD [mapL _ _] = some _ ∧ _); refine ⟨_, mapL_len, ?_⟩)
  | ((with_reducible show ∃ _, itemsD (mapL _ _) = some _ ∧ _); refine ⟨_, mapL_items, ?_⟩)
  | ((with_reducible show (if isNon (D.int _) = true then _ else _)); rw [if_neg (show ¬ (isNon (D.int _) = true) from Bool.false_ne_true)])
  | ((with_reducible show (if isNon D.non = true then _ else _)); rw [if_pos (show isNon D.non = true from rfl)])
  | ((with_reducible show (if (!isNon (D.int _)) = true then _ else _)); rw [if_pos (show (!isNon (D.int _)) = true from rfl)])
  | ((with_reducible show (if (!isNon D.non) = true then _ else _)); rw [if_neg (show ¬ ((!isNon D.non) = true) from Bool.false_ne_true)])
  | ((with_reducible show (if isNon (mapL _ _) = true then _ else _)); rw [if_neg (show ¬ (isNon (mapL _ _) = true) from Bool.false_ne_true)])
  | ((with_reducible show (if isNon (jD none) = true then _ else _)); rw [if_pos (show isNon (jD none) = true from rfl)])
  | ((with_reducible show (if isNon (jD (some _)) = true then _ else _)); rw [if_neg (show ¬ (isNon (jD (some _)) = true) from Bool.false_ne_true)])
  | ((with_reducible show (if (!isNon (jD none)) = true then _ else _)); rw [if_neg (show ¬ ((!isNon (jD none)) = true) from Bool.false_ne_true)])
  | ((with_reducible show (if (!isNon (jD (some _))) = true then _ else _)); rw [if_pos (show (!isNon (jD (some _))) = true from rfl)])
  | with_reducible refine Ev_methT ?_)
/-! departures, whole -/
end DL.Sh
set_option Elab.async false
set_option linter.all false
set_option maxRecDepth 100000
set_option maxHeartbeats 4000000
/-! range(a, b) with ends of any size. -/
namespace DL
open PySem PySem.Spec L2
open PySem.Sem (wp)
open PyProof.Rows
end DL
set_option Elab.async false
set_option linter.all false
set_option maxRecDepth 100000
set_option maxHeartbeats 4000000
namespace DL.Sh
open PySem PySem.Spec PyProof.Rows L2
/-- one step backwards -/
local macro_rules | `(tactic| walk_at "e1") => `(tactic| first
  | with_reducible refine S_next ?_ | with_reducible refine S_ret ?_ | with_reducible refine S_drop ?_ | with_reducible refine S_if ?_ | with_reducible refine S_for ?_
  | with_reducible refine Ev_C ?_ | with_reducible refine Ev_fz ?_ | with_reducible refine Ev_pur ?_ | with_reducible refine Ev_op2 ?_ | with_reducible refine Ev_top2 ?_ | with_reducible refine Ev_op1 ?_ | with_reducible refine Ev_val ?_
  | with_reducible refine Ev_tand ?_ | with_reducible refine Ev_tor ?_ | with_reducible refine Ev_tnot ?_ | with_reducible refine Ev_and ?_ | with_reducible refine Ev_or ?_ | with_reducible refine Ev_not ?_ | with_reducible refine Ev_if ?_
  | with_reducible refine Ev_anil ?_ | with_reducible refine Ev_acons ?_ | with_reducible refine Ev_eanil ?_ | with_reducible refine Ev_eacons ?_ | with_reducible refine Ev_call ?_ | with_reducible refine Ev_onone ?_ | with_reducible refine Ev_osome ?_
  | with_reducible refine Ev_sl ?_ | with_reducible refine Ev_esl ?_ | with_reducible refine Ev_eop2 ?_ | with_reducible refine Ev_eargs ?_ | with_reducible refine Ev_iseq ?_ | with_reducible refine Ev_iargs ?_ | with_reducible refine Ev_yes ?_
  | with_reducible refine Ev_chain ?_ | with_reducible refine Ev_tchain ?_
  | (with_reducible refine Ev_tbor ?_; simp only [frzE, Option.map_some, Option.map_none, O.fz, fzs, fzs_ints, fzs_purs])
  | (with_reducible refine Ev_bor ?_; simp only [frzE, Option.map_some, Option.map_none, O.fz, fzs, fzs_ints, fzs_purs])
  | ((with_reducible show (if (!true) = true then _ else _)); rw [if_neg (by decide)]) | ((with_reducible show (if (!false) = true then _ else _)); rw [if_pos (by decide)])
  | with_reducible refine Ev_call1 ?_ | ((with_reducible show (if true = true then _ else _)); rw [if_pos rfl]) | ((with_reducible show (if false = true then _ else _)); rw [if_neg Bool.false_ne_true])
  | ((with_reducible show Ev (dVar _) _ _); refine Ev_var rfl ?_)
  | ((with_reducible show Ev (eMove _) _ _); refine Ev_move rfl ?_; (try simp only [List.set_cons_zero, List.set_cons_succ]))
  | ((with_reducible refine S_set ?_))
  | (with_reducible refine S_asg ?_)
  | ((with_reducible refine Ev_tup ?_)) | ((with_reducible refine Ev_lst ?_)) | ((with_reducible refine Ev_elst ?_)) | ((with_reducible refine Ev_etup ?_))
  | ((with_reducible show ∃ _, powD _ _ = some _ ∧ _); refine ⟨_, pow18, ?_⟩) | ((with_reducible show ∃ _, powD _ _ = some _ ∧ _); refine ⟨_, rfl, ?_⟩; simp only [Int.reduceToNat, Int.reducePow]) | ((with_reducible show ∃ _, addD _ _ = some _ ∧ _); refine ⟨_, add_ii _ _, ?_⟩) | ((with_reducible show ∃ _, eqD _ _ = some _ ∧ _); refine ⟨_, eq_dec _ _, ?_⟩) | ((with_reducible show ∃ _, neD _ _ = some _ ∧ _); refine ⟨_, ne_dec _ _, ?_⟩) | ((with_reducible show ∃ _, ltD _ _ = some _ ∧ _); refine ⟨_, lt_dec _ _, ?_⟩) | ((with_reducible show ∃ _, leD _ _ = some _ ∧ _); refine ⟨_, le_dec _ _, ?_⟩) | ((with_reducible show ∃ _, gtD _ _ = some _ ∧ _); refine ⟨_, gt_dec _ _, ?_⟩) | ((with_reducible show ∃ _, geD _ _ = some _ ∧ _); refine ⟨_, ge_dec _ _, ?_⟩) | ((with_reducible show ∃ _, subD _ _ = some _ ∧ _); refine ⟨_, sub_ii _ _, ?_⟩) | ((with_reducible show ∃ _, negD _ = some _ ∧ _); refine ⟨_, neg_i _, ?_⟩)
  | ((with_reducible show ∃ _, mulD _ _ = some _ ∧ _); refine ⟨_, mul_ii (by omega), ?_⟩) | ((with_reducible show ∃ _, modD _ _ = some _ ∧ _); refine ⟨_, mod_ii (by omega), ?_⟩) | ((with_reducible show ∃ _, divD _ _ = some _ ∧ _); refine ⟨_, div_ii (by omega) (by omega), ?_⟩)
  | ((with_reducible show ∃ _, mixE _ _ _ = some _ ∧ _); refine ⟨_, mix_nil rfl, ?_⟩)
  | ((with_reducible show _ < List.length _ ∧ _); refine ⟨of_decide_eq_true rfl, ?_⟩; (try simp only [List.set_cons_zero, List.set_cons_succ, O.fz, fzs_ints, fzs_purs, keepE_cons, keepE_nil, wipeE]))
  | ((with_reducible show (_ < List.length _ ∧ _) ∧ _); refine ⟨of_decide_eq_true rfl, ?_⟩; (try simp only [List.set_cons_zero, List.set_cons_succ, O.fz, fzs_ints, fzs_purs, keepE_cons, keepE_nil, wipeE]))
  | ((with_reducible show List.length _ ≤ 1000 ∧ _); refine ⟨of_decide_eq_true rfl, ?_⟩; (try simp only [List.set_cons_zero, List.set_cons_succ, O.fz, fzs_ints, fzs_purs, keepE_cons, keepE_nil, wipeE]))
  | ((with_reducible show flatO _ = true ∧ _); refine ⟨rfl, ?_⟩)
  | ((with_reducible show Ev (eaLate _ _) _ _); refine Ev_late rfl ?_)
  | with_reducible refine S_setIx ?_
  | ((with_reducible show EvS (sAugIx _ _ _ _) _ _ _ _ _); refine S_augIx rfl ?_)
  | ((with_reducible show EvS (sAug _ _ _) _ _ _ _ _); refine S_aug rfl ?_)
  | ((with_reducible show ∃ a b c, _ = D.int a ∧ _ ∧ _ ∧ _); refine ⟨_, _, _, rfl, rfl, rfl, ?_⟩; simp only [List.set_cons_zero, List.set_cons_succ, Int.toNat_ofNat, Int.reduceToNat])
  | ((with_reducible show ∃ a b c, _ = D.int a ∧ _ ∧ _ ∧ _); refine ⟨_, _, _, rfl, rfl, rfl, ?_⟩)
  | ((with_reducible show ∃ _, ixD _ _ = some _ ∧ _); refine ⟨_, rfl, ?_⟩)
  | ((with_reducible show ∃ _, lenD _ = some _ ∧ _); refine ⟨_, rfl, ?_⟩)
  | ((with_reducible show ∃ _, absD _ = some _ ∧ _); refine ⟨_, rfl, ?_⟩)
  | ((with_reducible show ∃ _, itemsD _ = some _ ∧ _); refine ⟨_, rfl, ?_⟩)
  | ((with_reducible show ∃ _, tupleD _ = some _ ∧ _); refine ⟨_, rfl, ?_⟩)
  | ((with_reducible show ∃ _, listD _ = some _ ∧ _); refine ⟨_, rfl, ?_⟩)
  | ((with_reducible show ∃ _, listL _ = some _ ∧ _); refine ⟨_, rfl, ?_⟩)
  | ((with_reducible show ∃ _, toIntD _ = some _ ∧ _); refine ⟨_, rfl, ?_⟩)
  | ((with_reducible show ∃ _, isD _ _ = some _ ∧ _); refine ⟨_, rfl, ?_⟩)
  | ((with_reducible show ∃ _, isNotD _ _ = some _ ∧ _); refine ⟨_, rfl, ?_⟩)
  | ((with_reducible show ∃ _, takeS _ _ = some _ ∧ _); refine ⟨_, rfl, ?_⟩)
  | ((with_reducible show ∃ _, fName _ _ _ = some _ ∧ _); refine ⟨_, rfl, ?_⟩; (try simp only [List.set_cons_zero, List.set_cons_succ]))
  | ((with_reducible show ∃ _, fTup _ _ _ _ = some _ ∧ _); refine ⟨_, rfl, ?_⟩; (try simp only [List.set_cons_zero, List.set_cons_succ]))
  | ((with_reducible show ∃ _, slD _ _ _ = some _ ∧ _); refine ⟨_, rfl, ?_⟩)
  | ((with_reducible show ∃ _, slL _ _ _ = some _ ∧ _); refine ⟨_, rfl, ?_⟩)
  | ((with_reducible show ∃ _, List.set _ _ _ = some _ ∧ _); refine ⟨_, rfl, ?_⟩)
  | ((with_reducible show ∃ _, getElem? _ _ = some _ ∧ _); refine ⟨_, rfl, ?_⟩)
  | ((with_reducible show ∃ _, rangeD1 [D.int (Nat.cast _)] = some _ ∧ _); refine ⟨_, range_nat (by omega), ?_⟩) | ((with_reducible show ∃ _, rangeD1 _ = some _ ∧ _); refine ⟨_, range_lit (by omega) (by omega), ?_⟩)
  | ((with_reducible show ∃ _, _ = D.int _ ∧ _); refine ⟨_, rfl, ?_⟩)
  | ((with_reducible show ∃ _, maxD [D.int _, D.int _] = some _ ∧ _); refine ⟨_, rfl, ?_⟩) | ((with_reducible show ∃ _, minD [D.int _, D.int _] = some _ ∧ _); refine ⟨_, rfl, ?_⟩)
  | ((with_reducible show ∃ _, truD _ = some _ ∧ _); refine ⟨_, rfl, ?_⟩)
  | ((with_reducible show ∃ _, _ = D.bl _ ∧ _); refine ⟨_, rfl, ?_⟩)
  | ((with_reducible show ∃ _, neD (.str _) (.str _) = some _ ∧ _); refine ⟨_, ne_str _, ?_⟩) | ((with_reducible show ∃ _, eqD (.str _) (.str _) = some _ ∧ _); refine ⟨_, eq_str _, ?_⟩))
local macro_rules | `(tactic| walk_at "e") => `(tactic| repeat walk_at "e1")
local macro_rules | `(tactic| walk_at "s") => `(tactic| repeat (first | with_reducible refine S_seq ?_ | walk_at "e1"))
local macro_rules | `(tactic| walk_at "n") => `(tactic| try simp only [List.set_cons_zero, List.set_cons_succ, O.fz, fzs_ints, fzs_purs, keepE_cons, keepE_nil, wipeE])
local macro_rules | `(tactic| walk_at "e1") => `(tactic| ((with_reducible show Ev (eCall f_law_take _ _) _ _); refine Ev_take rfl (by assumption) ?_; (try simp only [List.set_cons_zero, List.set_cons_succ])))
local macro_rules | `(tactic| walk_at "e1") => `(tactic| ((with_reducible show ∀ _ _, _ → _ → BagOk _ → _); intro r o' h1 h2 hb; (try simp only [List.set_cons_zero, List.set_cons_succ, O.fz])))
local macro_rules | `(tactic| walk_at "e1") => `(tactic| ((with_reducible show _ < _ ∧ _); refine ⟨by omega, ?_⟩))
local macro_rules | `(tactic| walk_at "e1") => `(tactic| ((with_reducible show Ev (eCall f_law_size _ _) _ _); refine Ev_size rfl (by assumption) ?_; (try simp only [List.set_cons_zero, List.set_cons_succ])))
local macro_rules | `(tactic| walk_at "e1") => `(tactic| ((with_reducible show ∃ _, lenD [D.lst (rowsD _)] = some _ ∧ _); refine ⟨_, rfl, ?_⟩; rw [rowsD_len]))
local macro_rules | `(tactic| walk_at "e1") => `(tactic| ((with_reducible show ∃ _, isaD _ = some _ ∧ _); refine ⟨_, rfl, ?_⟩))
local macro_rules | `(tactic| walk_at "e1") => `(tactic| ((with_reducible show ∃ _, rangeD1 [D.int (_ + 1)] = some _ ∧ _); refine ⟨_, range_succ' (by omega), ?_⟩))
local macro_rules | `(tactic| walk_at "e1") => `(tactic| ((with_reducible show ∃ _, rangeD1 [D.int (1 + _)] = some _ ∧ _); refine ⟨_, range_one_add (by omega) (by omega), ?_⟩))
local macro_rules | `(tactic| walk_at "e1") => `(tactic| ((with_reducible show EvS (sFrz _ _) _ _ _ _ _); refine S_frz rfl ?_; (try simp only [List.set_cons_zero, List.set_cons_succ, O.fz, fzs, fzs_ints, fzs_purs])))
local macro_rules | `(tactic| walk_at "e1") => `(tactic| first | with_reducible refine S_par2 ?_ | with_reducible refine S_par3 ?_)
local macro_rules | `(tactic| walk_at "e1") => `(tactic| ((with_reducible show ∃ o1 o2 : O, _ = [o1, o2] ∧ _); refine ⟨_, _, rfl, ?_⟩))
local macro_rules | `(tactic| walk_at "e1") => `(tactic| ((with_reducible show ∃ o1 o2 o3 : O, _ = [o1, o2, o3] ∧ _); refine ⟨_, _, _, rfl, ?_⟩))
local macro_rules | `(tactic| walk_at "e1") => `(tactic| ((with_reducible show (_ < List.length _ ∧ _ < List.length _ ∧ _ < List.length _) ∧ _); refine ⟨of_decide_eq_true rfl, ?_⟩; (try simp only [List.set_cons_zero, List.set_cons_succ, O.fz, fzs_ints, fzs_purs, keepE_cons, keepE_nil, wipeE])))
local macro_rules | `(tactic| walk_at "e1") => `(tactic| first
  | ((with_reducible show Ev (eMCallD _ _ _ _ _) _ _); refine Ev_mcallD (fun _ _ _ h => runB_nil h) ?_)
  | ((with_reducible show Ev (eMCallK _ _ _ _ _ _) _ _); refine Ev_mcallK (fun _ _ _ h => runB_nil h) ?_)
  | ((with_reducible show Ev (eCallK _ _ _) _ _); refine Ev_callK (fun _ _ _ h => runB_nil h) ?_)
  | with_reducible refine Ev_make ?_
  | ((with_reducible show ∃ _, fldD "Endless" "wide" (endD _ _) = some _ ∧ _); refine ⟨_, end_wide, ?_⟩)
  | ((with_reducible show ∃ _, fldD "Endless" "rows" (endD _ _) = some _ ∧ _); refine ⟨_, end_rows, ?_⟩)
  | ((with_reducible show ∃ _, fldD "Endless" "sums" (endD _ _) = some _ ∧ _); refine ⟨_, end_sums, ?_⟩)
  | ((with_reducible show isIns _ _ (endD _ _) = true ∧ _); refine ⟨rfl, ?_⟩)
  | ((with_reducible show ∃ _, divmodD [D.int _, D.int _] = some _ ∧ _); refine ⟨_, divmod_ii (by omega) (by omega), ?_⟩)
  | ((with_reducible show ∃ _, lenD [mapL _ _] = some _ ∧ _); refine ⟨_, mapL_len, ?_⟩)
  | ((with_reducible show ∃ _, itemsD (mapL _ _) = some _ ∧ _); refine ⟨_, mapL_items, ?_⟩)
  | ((with_reducible show (if isNon (D.int _) = true then _ else _)); rw [if_neg (show ¬ (isNon (D.int _) = true) from Bool.false_ne_true)])
  | ((with_reducible show (if isNon D.non = true then _ else _)); rw [if_pos (show isNon D.non = true from rfl)])
  | ((with_reducible show (if (!isNon (D.int _)) = true then _ else _)); rw [if_pos (show (!isNon (D.int _)) = true from rfl)])
  | ((with_reducible show (if (!isNon D.non) = true then _ else _)); rw [if_neg (show ¬ ((!isNon D.non) = true) from Bool.false_ne_true)])
  | ((with_reducible show (if isNon (mapL _ _) = true then _ else _)); rw [if_neg (show ¬ (isNon (mapL _ _) = true) from Bool.false_ne_true)])
  | ((with_reducible show (if isNon (jD none) = true then _ else _)); rw [if_pos (show isNon (jD none) = true from rfl)])
  | ((with_reducible show (if isNon (jD (some _)) = true then _ else _)); rw [if_neg (show ¬ (isNon (jD (some _)) = true) from Bool.false_ne_true)])
  | ((with_reducible show (if (!isNon (jD none)) = true then _ else _)); rw [if_neg (show ¬ ((!isNon (jD none)) = true) from Bool.false_ne_true)])
  | ((with_reducible show (if (!isNon (jD (some _))) = true then _ else _)); rw [if_pos (show (!isNon (jD (some _))) = true from rfl)])
  | with_reducible refine Ev_methT ?_)
/-! maps that grow and repeat: the mean growth -/
end DL.Sh
set_option Elab.async false
set_option linter.all false
set_option maxRecDepth 100000
set_option maxHeartbeats 4000000
/-! == of plain values, decided: truths count as 0 and 1. -/
namespace DL
open PySem PySem.Spec L2
end DL
set_option Elab.async false
set_option linter.all false
set_option maxRecDepth 100000
set_option maxHeartbeats 4000000
/-! The data layer: parts of a slot lent; methods of an instance in a slot; frozen parts of own trees. -/
namespace DL
open PySem PySem.Spec PyProof.Rows L2
/-! ### a frozen part of an own tree -/
/-! ### cells -/
end DL
set_option Elab.async false
set_option linter.all false
set_option maxRecDepth 100000
set_option maxHeartbeats 4000000
/-! The data layer: defs that may raise; calls that hand over their receiver. -/
namespace DL
open PySem PySem.Spec PyProof.Rows L2
/-! ### what a def that may raise promises -/
inductive XO where
  | ok (o : O) | ex (c : Str) (fs : List (Str × D))
/-- an exception's own dict -/
def XD (g : G) (F : AP) (H : Hp) (d : Option Addr) (fs : List (Str × D)) : Prop := (d = none ∧ fs = []) ∨ ∃ b vs, d = some b ∧ F b ∧ H b = some (.xd vs) ∧ RpF g F H fs vs
abbrev FX := List O → Option (XO × List O)
/-! ### expressions that may raise -/
abbrev MXE := Env → Option (XO × Env)
def XP (g : G) (W : WX) (F : AP) (H : Hp) (fps : List Addr) (σ : L2.St) (Q : VK) (ρ' : Env) : XO → Prop
  | .ok o => ∀ F' H' fps' fp v, Ext F H fps F' H' (fps' ++ fp) → EnvR g F' H' ρ' fps' σ → Wd F' H' (fps' ++ fp) → RpO g F' H' o fp v → Q v H'
  | .ex c fs => ∀ F' H' fps' C d, Ext F H fps F' H' fps' → EnvR g F' H' ρ' fps' σ → Wd F' H' fps' → g.mg c = some (.ref C) → XD g F' H' d fs → W (.ref C) d σ H'
def eCallX (f : FX) (ss : List (Option Nat)) (fs : M (List O)) : MXE := fun ρ => match fs ρ with
  | some (os, ρ1) => match f os with
    | some (x, outs) => some (x, putOuts ss outs ρ1)
    | none => none
  | none => none
theorem IoOk.len : ∀ {ms : List (Option Nat)} {σ : L2.St} {vs : List V}, IoOk ms σ vs → vs.length = ms.length
  | [], σ, vs, h => by
    cases vs with
    | nil => rfl
    | cons _ _ => exact h.elim
  | m :: ms, σ, [], h => by cases m <;> exact h.elim
  | none :: ms, σ, v :: vs, h => by simp [IoOk.len (show IoOk ms σ vs from h)]
  | some i :: ms, σ, v :: vs, h => by simp [IoOk.len h.2]
/-! ### f(e, ..) that may raise -/
section
variable {X : Cx} {CX : CXT} {k : Nat} {fa C : Addr} {fd : FuncData} {ps : List Str} {sp : Sp} {x c m : Str} {p pos apos : Pos} {e o : Expr} {es : List Expr} {n : Nat} {ios : List Nat} {f : FX} {F0 : List O → Option (O × List O)} {ms ss : List (Option Nat)} {fs : M (List O)} {W : WX} {t : TA} {i : Nat}
/-! ### o.m(e, ..), o in a slot, handed over -/
def recvM (late : Bool) (i : Nat) (fs : M (List O)) : M (List O) := if late = true then eaLate i fs else eaCons (eMove i) fs
/-- the receiver is an instance without such an attribute -/
def isRecv (c m : Str) : Option (Option O) → Bool
  | some (some (.ins c' fs)) => decide (c' = c) && (getF m fs).isNone
  | some (some (.shl c' fs)) => decide (c' = c) && (getF m fs).isNone
  | some (some (.pur (.ins c' fs))) => decide (c' = c) && (getF m fs).isNone
  | _ => false
def eMCallI (c m : Str) (f : List O → Option (O × List O)) (ss : List (Option Nat)) (late : Bool) (i : Nat) (fs : M (List O)) : M O := fun ρ => if isRecv c m ρ[i]? = true then eCall f ss (recvM late i fs) ρ else none
def eMCallX (c m : Str) (f : FX) (ss : List (Option Nat)) (late : Bool) (i : Nat) (fs : M (List O)) : MXE := fun ρ => if isRecv c m ρ[i]? = true then eCallX f ss (recvM late i fs) ρ else none
end
end DL
set_option Elab.async false
set_option linter.all false
set_option maxRecDepth 100000
set_option maxHeartbeats 4000000
/-! The data layer: shells by paths, own dicts. -/
namespace DL
open PySem PySem.Spec PyProof.Rows L2
/-! ### o[k] += e, ints, o an own list at a path -/
/-! ### dicts -/
def keyD : D → Option Key
  | .int i => some (.inl i)
  | .str s => some (.inr s)
  | _ => none
theorem Rp.key {g : G} {F : AP} {H : Hp} {d : D} {v : V} {k : Key} (r : Rp g F H d v) (h : keyD d = some k) : v = kV k := by
  cases d with
  | int i => simp only [Rp] at r; cases h; exact r
  | str s => simp only [Rp] at r; cases h; exact r
  | _ => cases h
section
variable {g : G} {F : AP} {H : Hp}
theorem RpK.val : ∀ {kvs : List (Key × D)} {vs : List (Key × V)} {k : Key}, RpK g F H kvs vs → (match getK k kvs with
    | some d => ∃ v, valV vs k = some v ∧ Rp g F H d v
    | none => valV vs k = none)
  | [], vs, k, h => by simp only [RpK] at h; subst h; rfl
  | (x, d) :: kvs, vs, k, h => by
    simp only [RpK] at h
    obtain ⟨v, r, rfl, h1, h2⟩ := h
    unfold getK
    by_cases e : x = k
    · rw [if_pos e]
      exact ⟨v, valV_pos (p := (x, v)) e, h1⟩
    · rw [if_neg e, valV_neg (p := (x, v)) e]
      exact RpK.val h2
theorem RpK.some {kvs : List (Key × D)} {vs : List (Key × V)} {k : Key} (h : RpK g F H kvs vs) : (valV vs k).isSome = (getK k kvs).isSome := by
  have q := h.val (k := k)
  cases e : getK k kvs with
  | none => rw [e] at q; rw [q]; rfl
  | some d => rw [e] at q; obtain ⟨v, q, _⟩ := q; rw [q]; rfl
theorem RpK.len : ∀ {kvs : List (Key × D)} {vs : List (Key × V)}, RpK g F H kvs vs → kvs.length = vs.length
  | [], vs, h => by simp only [RpK] at h; subst h; rfl
  | (x, d) :: kvs, vs, h => by
    simp only [RpK] at h
    obtain ⟨v, r, rfl, h1, h2⟩ := h
    simp [RpK.len h2]
theorem RpK.keys : ∀ {kvs : List (Key × D)} {vs : List (Key × V)}, RpK g F H kvs vs → vs.map (·.1) = kvs.map (·.1)
  | [], vs, h => by simp only [RpK] at h; subst h; rfl
  | (x, d) :: kvs, vs, h => by
    simp only [RpK] at h
    obtain ⟨v, r, rfl, h1, h2⟩ := h
    simp [RpK.keys h2]
theorem RpOK.keys : ∀ {kvs : List (Key × O)} {f : List Addr} {vs : List (Key × V)}, RpOK g F H kvs f vs → vs.map (·.1) = kvs.map (·.1)
  | [], f, vs, h => by simp only [RpOK] at h; rw [h.2]; rfl
  | (x, d) :: kvs, f, vs, h => by
    simp only [RpOK] at h
    obtain ⟨v, r, f1, f2, rfl, rfl, h1, h2⟩ := h
    simp [RpOK.keys h2]
theorem RpOK.pur : ∀ {kvs : List (Key × D)} {vs : List (Key × V)}, RpK g F H kvs vs → RpOK g F H (kvs.map fun p => (p.1, O.pur p.2)) [] vs
  | [], vs, h => by simp only [RpK] at h; subst h; simp [RpOK]
  | (x, d) :: kvs, vs, h => by
    simp only [RpK] at h
    obtain ⟨v, r, rfl, h1, h2⟩ := h
    simp only [List.map_cons, RpOK, RpO]
    exact ⟨v, r, [], [], rfl, rfl, ⟨rfl, h1⟩, RpOK.pur h2⟩
end
/-- {} -/
def eDNew : M O := ret (.dct [])
section
variable {g : G} {F : AP} {H : Hp} {ρ : Env} {fps : List Addr} {σ : L2.St} {p : Addr} {o : HO}
theorem own_at (en : EnvR g F H ρ fps σ) (w : Wd F H fps) (hp : H p = none) : Ext F H fps F (upd H p o) (fps ++ [p]) ∧ EnvR g F (upd H p o) ρ fps σ ∧ Wd F (upd H p o) (fps ++ [p]) ∧ (∀ a, F a → F a ∧ upd H p o a = H a) := by
  have ne : ∀ a, H a ≠ none → a ≠ p := fun a h e => h (e ▸ hp)
  have mF : ∀ a, F a → F a ∧ upd H p o a = H a := fun a h => ⟨h, upd_ne (ne a (w.fro a h))⟩
  have pm : (p :: fps).Perm (fps ++ [p]) := List.perm_append_singleton p fps |>.symm
  exact ⟨(Ext.laidO hp).perm pm, en.mono mF fun a m => upd_ne (ne a (w.own a m).1), (w.laidO hp).perm pm, mF⟩
end
section
variable {X : Cx} {e : Expr} {es : List Expr} {fs : M (List D)} {p pos : Pos}
theorem e_dnew : PE X (.Dict [] [] pos) (tE (gx X) eDNew) := pe_dnewK.impD fun {σ H Q} ⟨F, ρ, fps, d, ρ', en, w, hf, q⟩ => by
  obtain ⟨rfl, rfl⟩ := ret_some.mp hf
  intro p hp
  obtain ⟨x3, e3, w3, _⟩ := own_at (o := .dK []) en w hp
  exact q F _ fps [p] (.ref p) x3 e3 w3 (by simp only [RpO, RpOK]; exact ⟨p, [], [], rfl, upd_same, ⟨rfl, rfl⟩, rfl⟩)
/-- sorted(d), d's keys ints -/
def keyI : Key → Option Int
  | .inl i => some i
  | _ => none
theorem keyIs : ∀ {ks : List Key} {ns : List Int}, ks.mapM keyI = some ns → ks = ns.map Sum.inl
  | [], ns, h => by simp at h; subst h; rfl
  | k :: ks, ns, h => by
    cases k with
    | inr s => simp [keyI] at h
    | inl i =>
      simp only [List.mapM_cons, keyI, Option.pure_def, Option.bind_eq_bind, Option.bind_some] at h
      obtain ⟨ms, h1, h2⟩ := Option.bind_eq_some_iff.mp h
      cases h2
      rw [keyIs h1]; rfl
end
end DL
set_option Elab.async false
set_option linter.all false
set_option maxRecDepth 100000
set_option maxHeartbeats 4000000
/-! The data layer: x, *ys = e. -/
namespace DL
open PySem PySem.Spec PyProof.Rows PySem.W PySem.Calls L2
end DL
set_option Elab.async false
set_option linter.all false
set_option maxRecDepth 100000
set_option maxHeartbeats 4000000
/-! The data layer: statements that may raise, raise, try. -/
namespace DL
open PySem PySem.Spec PyProof.Rows L2
inductive OX where
  | o (x : Out) | ex (c : Str) (fs : List (Str × D)) (ρ : Env)
abbrev MSX := Env → Option OX
def OXP (g : G) (ws : List Nat) (W : WX) (F : AP) (H : Hp) (fps : List Addr) (σ : L2.St) (E : Ends) : OX → Prop
  | .o x => OutP g ws F H fps σ E x
  | .ex c fs ρ' => ∀ σ' F' H' fps' C d, Ext F H fps F' H' fps' → EnvR g F' H' ρ' fps' σ' → Wd F' H' fps' → Off ws σ σ' → g.mg c = some (.ref C) → XD g F' H' d fs → W (.ref C) d σ' H'
theorem OXP.step {g : G} {ws : List Nat} {W : WX} {F F1 : AP} {H H1 : Hp} {fps p1 : List Addr} {σ σ1 : L2.St} {E : Ends} {out : OX} (x : Ext F H fps F1 H1 p1) (o : Off ws σ σ1) (h : OXP g ws W F H fps σ E out) : OXP g ws W F1 H1 p1 σ1 E out := by
  cases out with
  | o r => exact OutP.step x o h
  | ex c fs ρ => exact fun σ' F' H' p' C d x' e w o' mc xd => h σ' F' H' p' C d (x.trans x') e w (o.trans o') mc xd
def xLift (f : MS) : MSX := fun ρ => (f ρ).map OX.o
def xSeq (f h : MSX) : MSX := fun ρ => match f ρ with
  | some (.o (.nx ρ1)) => h ρ1
  | r => r
def xIf (c : M Bool) (f h : MSX) : MSX := fun ρ => match c ρ with
  | some (true, ρ1) => f ρ1
  | some (false, ρ1) => h ρ1
  | none => none
def xFz (f : MXE) : MXE := fun ρ => match f ρ with
  | some (.ok o, ρ1) => some (.ok (.pur o.fz), ρ1)
  | r => r
def xSet (i : Nat) (f : MXE) : MSX := fun ρ => match f ρ with
  | some (.ok o, ρ1) => if i < ρ1.length then some (.o (.nx (ρ1.set i (some o)))) else none
  | some (.ex c fs, ρ1) => some (.ex c fs ρ1)
  | none => none
def xRet (f : MXE) : MSX := fun ρ => match f ρ with
  | some (.ok o, ρ1) => some (.o (.rt o ρ1))
  | some (.ex c fs, ρ1) => some (.ex c fs ρ1)
  | none => none
def xDrop (f : MXE) : MSX := fun ρ => match f ρ with
  | some (.ok _, ρ1) => some (.o (.nx ρ1))
  | some (.ex c fs, ρ1) => some (.ex c fs ρ1)
  | none => none
/-- t = e, what is unpacked is frozen -/
def xAsg (t : TF) (f : MXE) : MSX := fun ρ => match f ρ with
  | some (.ok o, ρ1) => match t o.fz ρ1 with
    | some ρ2 => some (.o (.nx ρ2))
    | none => none
  | some (.ex c fs, ρ1) => some (.ex c fs ρ1)
  | none => none
/-- (e, f) of which f may raise -/
def xTup2 (fa : M D) (f : MXE) : MXE := fun ρ => match fa ρ with
  | some (d, ρ1) => match f ρ1 with
    | some (.ok o, ρ2) => some (.ok (.tup [.pur d, o]), ρ2)
    | r => r
  | none => none
def xOf (f : M O) : MXE := fun ρ => match f ρ with
  | some (o, ρ1) => some (.ok o, ρ1)
  | none => none
/-! ### loops -/
def forGoX (t : TF) (b : MSX) : List D → Env → Option OX
  | [], ρ => some (.o (.nx ρ))
  | d :: ds, ρ => match t d ρ with
    | none => none
    | some ρ1 => match b ρ1 with
      | none => none
      | some (.o (.nx ρ2)) => forGoX t b ds ρ2
      | some (.o (.ct ρ2)) => forGoX t b ds ρ2
      | some (.o (.bk ρ2)) => some (.o (.nx ρ2))
      | some (.o (.rt o ρ2)) => some (.o (.rt o ρ2))
      | some (.ex c fs ρ2) => some (.ex c fs ρ2)
def xFor (it : M (List D)) (t : TF) (b : MSX) : MSX := fun ρ => match it ρ with
  | some (ds, ρ1) => forGoX t b ds ρ1
  | none => none
/-! ### a def that may raise -/
end DL
set_option Elab.async false
set_option linter.all false
set_option maxRecDepth 100000
set_option maxHeartbeats 4000000
/-! The data layer: dicts in own trees: d[k] = e, d.pop(k), paths by keys, displays; d[k] and d.get(k) of frozen dicts. -/
namespace DL
open PySem PySem.Spec PyProof.Rows L2
def hasK {α : Type} (k : Key) : List (Key × α) → Bool
  | [] => false
  | (x, _) :: r => decide (x = k) || hasK k r
section
variable {g : G} {F : AP} {H : Hp}
theorem hasK_map {α : Type} {k : Key} : ∀ {kvs : List (Key × α)}, hasK k kvs = (kvs.map (·.1)).any fun x => decide (x = k)
  | [] => rfl
  | (x, o) :: r => by simp only [hasK, List.map_cons, List.any_cons, hasK_map (kvs := r)]
theorem RpOK.has {k : Key} {os : List (Key × O)} {f : List Addr} {vs : List (Key × V)} (h : RpOK g F H os f vs) : hasK k vs = hasK k os := by rw [hasK_map, hasK_map, h.keys]
end
/-! ### o[k] = e, o an own dict at a path -/
/-! ### frozen dicts -/
end DL
set_option Elab.async false
set_option linter.all false
set_option maxRecDepth 100000
set_option maxHeartbeats 4000000
/-! The data layer: d.get(k); dict displays with constant keys. -/
namespace DL
open PySem PySem.Spec PyProof.Rows L2
/-! ### {k: e, ..} -/
section
variable {X : Cx} {pos : Pos} {k v : Expr} {ks : List (Option Expr)} {vs : List Expr} {f : M O} {ps : List (Key × M O)} {key : Key}
theorem putK_fresh {k : Key} {v : V} {kvs : List (Key × V)} (h : k ∉ kvs.map (·.1)) : L2.putK kvs k v = kvs ++ [(k, v)] := by
  unfold L2.putK
  rw [if_neg]
  intro z
  obtain ⟨kv, m, e⟩ := List.any_eq_true.mp z
  exact h (List.mem_map.mpr ⟨kv, m, of_decide_eq_true e⟩)
theorem merge_nodup : ∀ (more kvs : List (Key × V)), ((kvs ++ more).map (·.1)).Nodup → mergeK kvs more = kvs ++ more
  | [], kvs, _ => by simp [mergeK]
  | p :: more, kvs, h => by
    have hk : p.1 ∉ kvs.map (·.1) := fun m => by
      rw [List.map_append, List.nodup_append] at h
      exact h.2.2 _ m _ (by simp) rfl
    show mergeK (L2.putK kvs p.1 p.2) more = _
    rw [putK_fresh hk, merge_nodup more (kvs ++ [(p.1, p.2)]) (by simpa using h)]
    simp
end
end DL
set_option Elab.async false
set_option linter.all false
set_option maxRecDepth 100000
set_option maxHeartbeats 4000000
/-! The data layer: x, y, .. = e, e a tuple of one's own. -/
namespace DL
open PySem PySem.Spec PyProof.Rows L2
def setAll : List Nat → List O → Env → Env
  | i :: is, o :: os, ρ => setAll is os (ρ.set i (some o))
  | _, _, ρ => ρ
def sTupO (is : List Nat) (fe : M O) : MS := fun ρ => match fe ρ with
  | some (.tup os, ρ1) => if os.length = is.length ∧ (is.all fun i => decide (i < ρ1.length)) = true then some (.nx (setAll is os ρ1)) else none
  | _ => none
end DL
set_option Elab.async false
set_option linter.all false
set_option maxRecDepth 100000
set_option maxHeartbeats 4000000
namespace DL.Sh
open PySem PySem.Spec PyProof.Rows L2
/-- is_tier(thing, width); slots: 0 thing, 1 width -/
def b_is_tier : MS :=
  (sSeq (sIf (tOrM (tNotM (tValM (dCall isaD (aCons (dVar 0) (aCons (dC (.ty "tuple")) aNil))))) (tOp2 neD (dCall lenD (aCons (dVar 0) aNil)) (dC (.int 2))))
  (sRet (purM (dC (.bl false))))
  sNext)
  (sRet (purM (dAnd (fzM (eCall f_is_between [] (eaCons (purM (dOp2 ixD (dVar 0) (dC (.int 0)))) (eaCons (purM (dC (.int 0))) (eaCons (purM (dOp2 subD (dVar 1) (dC (.int 1)))) eaNil))))) (fzM (eCall f_is_size [] (eaCons (purM (dOp2 ixD (dVar 0) (dC (.int 1)))) eaNil)))))))
def f_is_tier : List O → Option (O × List O) := runB 2 [] b_is_tier
/-- are_tiers(thing, width); slots: 0 thing, 1 width, 2 tier -/
def b_are_tiers : MS :=
  (sSeq (sIf (tOrM (tNotM (tValM (dCall isaD (aCons (dVar 0) (aCons (dC (.ty "list")) aNil))))) (tNotM (tChain leD leD (dC (.int 1)) (dCall lenD (aCons (dVar 0) aNil)) (dC (.int 8)))))
  (sRet (purM (dC (.bl false))))
  sNext)
  (sRet (purM (dCall allD (aCons (fzM (eComp [2] (iSeqM (dVar 0)) (fName 2) tYesM (eCall f_is_tier [] (eaCons (purM (dVar 2)) (eaCons (purM (dVar 1)) eaNil))))) aNil)))))
def f_are_tiers : List O → Option (O × List O) := runB 3 [] b_are_tiers
/-- one step backwards -/
local macro_rules | `(tactic| walk_at "e1") => `(tactic| first
  | with_reducible refine S_next ?_ | with_reducible refine S_ret ?_ | with_reducible refine S_drop ?_ | with_reducible refine S_if ?_ | with_reducible refine S_for ?_
  | with_reducible refine Ev_C ?_ | with_reducible refine Ev_fz ?_ | with_reducible refine Ev_pur ?_ | with_reducible refine Ev_op2 ?_ | with_reducible refine Ev_top2 ?_ | with_reducible refine Ev_op1 ?_ | with_reducible refine Ev_val ?_
  | with_reducible refine Ev_tand ?_ | with_reducible refine Ev_tor ?_ | with_reducible refine Ev_tnot ?_ | with_reducible refine Ev_and ?_ | with_reducible refine Ev_or ?_ | with_reducible refine Ev_not ?_ | with_reducible refine Ev_if ?_
  | with_reducible refine Ev_anil ?_ | with_reducible refine Ev_acons ?_ | with_reducible refine Ev_eanil ?_ | with_reducible refine Ev_eacons ?_ | with_reducible refine Ev_call ?_ | with_reducible refine Ev_onone ?_ | with_reducible refine Ev_osome ?_
  | with_reducible refine Ev_sl ?_ | with_reducible refine Ev_esl ?_ | with_reducible refine Ev_eop2 ?_ | with_reducible refine Ev_eargs ?_ | with_reducible refine Ev_iseq ?_ | with_reducible refine Ev_iargs ?_ | with_reducible refine Ev_yes ?_
  | with_reducible refine Ev_chain ?_ | with_reducible refine Ev_tchain ?_
  | (with_reducible refine Ev_tbor ?_; simp only [frzE, Option.map_some, Option.map_none, O.fz, fzs, fzs_ints, fzs_purs])
  | (with_reducible refine Ev_bor ?_; simp only [frzE, Option.map_some, Option.map_none, O.fz, fzs, fzs_ints, fzs_purs])
  | ((with_reducible show (if (!true) = true then _ else _)); rw [if_neg (by decide)]) | ((with_reducible show (if (!false) = true then _ else _)); rw [if_pos (by decide)])
  | with_reducible refine Ev_call1 ?_ | ((with_reducible show (if true = true then _ else _)); rw [if_pos rfl]) | ((with_reducible show (if false = true then _ else _)); rw [if_neg Bool.false_ne_true])
  | ((with_reducible show Ev (dVar _) _ _); refine Ev_var rfl ?_)
  | ((with_reducible show Ev (eMove _) _ _); refine Ev_move rfl ?_; (try simp only [List.set_cons_zero, List.set_cons_succ]))
  | ((with_reducible refine S_set ?_))
  | (with_reducible refine S_asg ?_)
  | ((with_reducible refine Ev_tup ?_)) | ((with_reducible refine Ev_lst ?_)) | ((with_reducible refine Ev_elst ?_)) | ((with_reducible refine Ev_etup ?_))
  | ((with_reducible show ∃ _, powD _ _ = some _ ∧ _); refine ⟨_, pow18, ?_⟩) | ((with_reducible show ∃ _, powD _ _ = some _ ∧ _); refine ⟨_, rfl, ?_⟩; simp only [Int.reduceToNat, Int.reducePow]) | ((with_reducible show ∃ _, addD _ _ = some _ ∧ _); refine ⟨_, add_ii _ _, ?_⟩) | ((with_reducible show ∃ _, eqD _ _ = some _ ∧ _); refine ⟨_, eq_dec _ _, ?_⟩) | ((with_reducible show ∃ _, neD _ _ = some _ ∧ _); refine ⟨_, ne_dec _ _, ?_⟩) | ((with_reducible show ∃ _, ltD _ _ = some _ ∧ _); refine ⟨_, lt_dec _ _, ?_⟩) | ((with_reducible show ∃ _, leD _ _ = some _ ∧ _); refine ⟨_, le_dec _ _, ?_⟩) | ((with_reducible show ∃ _, gtD _ _ = some _ ∧ _); refine ⟨_, gt_dec _ _, ?_⟩) | ((with_reducible show ∃ _, geD _ _ = some _ ∧ _); refine ⟨_, ge_dec _ _, ?_⟩) | ((with_reducible show ∃ _, subD _ _ = some _ ∧ _); refine ⟨_, sub_ii _ _, ?_⟩) | ((with_reducible show ∃ _, negD _ = some _ ∧ _); refine ⟨_, neg_i _, ?_⟩)
  | ((with_reducible show ∃ _, mulD _ _ = some _ ∧ _); refine ⟨_, mul_ii (by omega), ?_⟩) | ((with_reducible show ∃ _, modD _ _ = some _ ∧ _); refine ⟨_, mod_ii (by omega), ?_⟩) | ((with_reducible show ∃ _, divD _ _ = some _ ∧ _); refine ⟨_, div_ii (by omega) (by omega), ?_⟩)
  | ((with_reducible show ∃ _, mixE _ _ _ = some _ ∧ _); refine ⟨_, mix_nil rfl, ?_⟩)
  | ((with_reducible show _ < List.length _ ∧ _); refine ⟨of_decide_eq_true rfl, ?_⟩; (try simp only [List.set_cons_zero, List.set_cons_succ, O.fz, fzs_ints, fzs_purs, keepE_cons, keepE_nil, wipeE]))
  | ((with_reducible show (_ < List.length _ ∧ _) ∧ _); refine ⟨of_decide_eq_true rfl, ?_⟩; (try simp only [List.set_cons_zero, List.set_cons_succ, O.fz, fzs_ints, fzs_purs, keepE_cons, keepE_nil, wipeE]))
  | ((with_reducible show List.length _ ≤ 1000 ∧ _); refine ⟨of_decide_eq_true rfl, ?_⟩; (try simp only [List.set_cons_zero, List.set_cons_succ, O.fz, fzs_ints, fzs_purs, keepE_cons, keepE_nil, wipeE]))
  | ((with_reducible show flatO _ = true ∧ _); refine ⟨rfl, ?_⟩)
  | ((with_reducible show Ev (eaLate _ _) _ _); refine Ev_late rfl ?_)
  | with_reducible refine S_setIx ?_
  | ((with_reducible show EvS (sAugIx _ _ _ _) _ _ _ _ _); refine S_augIx rfl ?_)
  | ((with_reducible show EvS (sAug _ _ _) _ _ _ _ _); refine S_aug rfl ?_)
  | ((with_reducible show ∃ a b c, _ = D.int a ∧ _ ∧ _ ∧ _); refine ⟨_, _, _, rfl, rfl, rfl, ?_⟩; simp only [List.set_cons_zero, List.set_cons_succ, Int.toNat_ofNat, Int.reduceToNat])
  | ((with_reducible show ∃ a b c, _ = D.int a ∧ _ ∧ _ ∧ _); refine ⟨_, _, _, rfl, rfl, rfl, ?_⟩)
  | ((with_reducible show ∃ _, ixD _ _ = some _ ∧ _); refine ⟨_, rfl, ?_⟩)
  | ((with_reducible show ∃ _, lenD _ = some _ ∧ _); refine ⟨_, rfl, ?_⟩)
  | ((with_reducible show ∃ _, absD _ = some _ ∧ _); refine ⟨_, rfl, ?_⟩)
  | ((with_reducible show ∃ _, itemsD _ = some _ ∧ _); refine ⟨_, rfl, ?_⟩)
  | ((with_reducible show ∃ _, tupleD _ = some _ ∧ _); refine ⟨_, rfl, ?_⟩)
  | ((with_reducible show ∃ _, listD _ = some _ ∧ _); refine ⟨_, rfl, ?_⟩)
  | ((with_reducible show ∃ _, listL _ = some _ ∧ _); refine ⟨_, rfl, ?_⟩)
  | ((with_reducible show ∃ _, toIntD _ = some _ ∧ _); refine ⟨_, rfl, ?_⟩)
  | ((with_reducible show ∃ _, isD _ _ = some _ ∧ _); refine ⟨_, rfl, ?_⟩)
  | ((with_reducible show ∃ _, isNotD _ _ = some _ ∧ _); refine ⟨_, rfl, ?_⟩)
  | ((with_reducible show ∃ _, takeS _ _ = some _ ∧ _); refine ⟨_, rfl, ?_⟩)
  | ((with_reducible show ∃ _, fName _ _ _ = some _ ∧ _); refine ⟨_, rfl, ?_⟩; (try simp only [List.set_cons_zero, List.set_cons_succ]))
  | ((with_reducible show ∃ _, fTup _ _ _ _ = some _ ∧ _); refine ⟨_, rfl, ?_⟩; (try simp only [List.set_cons_zero, List.set_cons_succ]))
  | ((with_reducible show ∃ _, slD _ _ _ = some _ ∧ _); refine ⟨_, rfl, ?_⟩)
  | ((with_reducible show ∃ _, slL _ _ _ = some _ ∧ _); refine ⟨_, rfl, ?_⟩)
  | ((with_reducible show ∃ _, List.set _ _ _ = some _ ∧ _); refine ⟨_, rfl, ?_⟩)
  | ((with_reducible show ∃ _, getElem? _ _ = some _ ∧ _); refine ⟨_, rfl, ?_⟩)
  | ((with_reducible show ∃ _, rangeD1 [D.int (Nat.cast _)] = some _ ∧ _); refine ⟨_, range_nat (by omega), ?_⟩) | ((with_reducible show ∃ _, rangeD1 _ = some _ ∧ _); refine ⟨_, range_lit (by omega) (by omega), ?_⟩)
  | ((with_reducible show ∃ _, _ = D.int _ ∧ _); refine ⟨_, rfl, ?_⟩)
  | ((with_reducible show ∃ _, maxD [D.int _, D.int _] = some _ ∧ _); refine ⟨_, rfl, ?_⟩) | ((with_reducible show ∃ _, minD [D.int _, D.int _] = some _ ∧ _); refine ⟨_, rfl, ?_⟩)
  | ((with_reducible show ∃ _, truD _ = some _ ∧ _); refine ⟨_, rfl, ?_⟩)
  | ((with_reducible show ∃ _, _ = D.bl _ ∧ _); refine ⟨_, rfl, ?_⟩)
  | ((with_reducible show ∃ _, neD (.str _) (.str _) = some _ ∧ _); refine ⟨_, ne_str _, ?_⟩) | ((with_reducible show ∃ _, eqD (.str _) (.str _) = some _ ∧ _); refine ⟨_, eq_str _, ?_⟩))
local macro_rules | `(tactic| walk_at "e") => `(tactic| repeat walk_at "e1")
local macro_rules | `(tactic| walk_at "s") => `(tactic| repeat (first | with_reducible refine S_seq ?_ | walk_at "e1"))
local macro_rules | `(tactic| walk_at "n") => `(tactic| try simp only [List.set_cons_zero, List.set_cons_succ, O.fz, fzs_ints, fzs_purs, keepE_cons, keepE_nil, wipeE])
local macro_rules | `(tactic| walk_at "e1") => `(tactic| ((with_reducible show Ev (eCall f_law_take _ _) _ _); refine Ev_take rfl (by assumption) ?_; (try simp only [List.set_cons_zero, List.set_cons_succ])))
local macro_rules | `(tactic| walk_at "e1") => `(tactic| ((with_reducible show ∀ _ _, _ → _ → BagOk _ → _); intro r o' h1 h2 hb; (try simp only [List.set_cons_zero, List.set_cons_succ, O.fz])))
local macro_rules | `(tactic| walk_at "e1") => `(tactic| ((with_reducible show _ < _ ∧ _); refine ⟨by omega, ?_⟩))
local macro_rules | `(tactic| walk_at "e1") => `(tactic| ((with_reducible show Ev (eCall f_law_size _ _) _ _); refine Ev_size rfl (by assumption) ?_; (try simp only [List.set_cons_zero, List.set_cons_succ])))
local macro_rules | `(tactic| walk_at "e1") => `(tactic| ((with_reducible show ∃ _, lenD [D.lst (rowsD _)] = some _ ∧ _); refine ⟨_, rfl, ?_⟩; rw [rowsD_len]))
local macro_rules | `(tactic| walk_at "e1") => `(tactic| ((with_reducible show ∃ _, isaD _ = some _ ∧ _); refine ⟨_, rfl, ?_⟩))
local macro_rules | `(tactic| walk_at "e1") => `(tactic| ((with_reducible show ∃ _, rangeD1 [D.int (_ + 1)] = some _ ∧ _); refine ⟨_, range_succ' (by omega), ?_⟩))
local macro_rules | `(tactic| walk_at "e1") => `(tactic| ((with_reducible show ∃ _, rangeD1 [D.int (1 + _)] = some _ ∧ _); refine ⟨_, range_one_add (by omega) (by omega), ?_⟩))
local macro_rules | `(tactic| walk_at "e1") => `(tactic| ((with_reducible show EvS (sFrz _ _) _ _ _ _ _); refine S_frz rfl ?_; (try simp only [List.set_cons_zero, List.set_cons_succ, O.fz, fzs, fzs_ints, fzs_purs])))
local macro_rules | `(tactic| walk_at "e1") => `(tactic| first | with_reducible refine S_par2 ?_ | with_reducible refine S_par3 ?_)
local macro_rules | `(tactic| walk_at "e1") => `(tactic| ((with_reducible show ∃ o1 o2 : O, _ = [o1, o2] ∧ _); refine ⟨_, _, rfl, ?_⟩))
local macro_rules | `(tactic| walk_at "e1") => `(tactic| ((with_reducible show ∃ o1 o2 o3 : O, _ = [o1, o2, o3] ∧ _); refine ⟨_, _, _, rfl, ?_⟩))
local macro_rules | `(tactic| walk_at "e1") => `(tactic| ((with_reducible show (_ < List.length _ ∧ _ < List.length _ ∧ _ < List.length _) ∧ _); refine ⟨of_decide_eq_true rfl, ?_⟩; (try simp only [List.set_cons_zero, List.set_cons_succ, O.fz, fzs_ints, fzs_purs, keepE_cons, keepE_nil, wipeE])))
local macro_rules | `(tactic| walk_at "e1") => `(tactic| first
  | ((with_reducible show Ev (eMCallD _ _ _ _ _) _ _); refine Ev_mcallD (fun _ _ _ h => runB_nil h) ?_)
  | ((with_reducible show Ev (eMCallK _ _ _ _ _ _) _ _); refine Ev_mcallK (fun _ _ _ h => runB_nil h) ?_)
  | ((with_reducible show Ev (eCallK _ _ _) _ _); refine Ev_callK (fun _ _ _ h => runB_nil h) ?_)
  | with_reducible refine Ev_make ?_
  | ((with_reducible show ∃ _, fldD "Endless" "wide" (endD _ _) = some _ ∧ _); refine ⟨_, end_wide, ?_⟩)
  | ((with_reducible show ∃ _, fldD "Endless" "rows" (endD _ _) = some _ ∧ _); refine ⟨_, end_rows, ?_⟩)
  | ((with_reducible show ∃ _, fldD "Endless" "sums" (endD _ _) = some _ ∧ _); refine ⟨_, end_sums, ?_⟩)
  | ((with_reducible show isIns _ _ (endD _ _) = true ∧ _); refine ⟨rfl, ?_⟩)
  | ((with_reducible show ∃ _, divmodD [D.int _, D.int _] = some _ ∧ _); refine ⟨_, divmod_ii (by omega) (by omega), ?_⟩)
  | ((with_reducible show ∃ _, lenD [mapL _ _] = some _ ∧ _); refine ⟨_, mapL_len, ?_⟩)
  | ((with_reducible show ∃ _, itemsD (mapL _ _) = some _ ∧ _); refine ⟨_, mapL_items, ?_⟩)
  | ((with_reducible show (if isNon (D.int _) = true then _ else _)); rw [if_neg (show ¬ (isNon (D.int _) = true) from Bool.false_ne_true)])
  | ((with_reducible show (if isNon D.non = true then _ else _)); rw [if_pos (show isNon D.non = true from rfl)])
  | ((with_reducible show (if (!isNon (D.int _)) = true then _ else _)); rw [if_pos (show (!isNon (D.int _)) = true from rfl)])
  | ((with_reducible show (if (!isNon D.non) = true then _ else _)); rw [if_neg (show ¬ ((!isNon D.non) = true) from Bool.false_ne_true)])
  | ((with_reducible show (if isNon (mapL _ _) = true then _ else _)); rw [if_neg (show ¬ (isNon (mapL _ _) = true) from Bool.false_ne_true)])
  | ((with_reducible show (if isNon (jD none) = true then _ else _)); rw [if_pos (show isNon (jD none) = true from rfl)])
  | ((with_reducible show (if isNon (jD (some _)) = true then _ else _)); rw [if_neg (show ¬ (isNon (jD (some _)) = true) from Bool.false_ne_true)])
  | ((with_reducible show (if (!isNon (jD none)) = true then _ else _)); rw [if_neg (show ¬ ((!isNon (jD none)) = true) from Bool.false_ne_true)])
  | ((with_reducible show (if (!isNon (jD (some _))) = true then _ else _)); rw [if_pos (show (!isNon (jD (some _))) = true from rfl)])
  | with_reducible refine Ev_methT ?_)
section
variable {ρ : Env}
theorem Ev_mcallI {c m : Str} {f : List O → Option (O × List O)} {ss : List (Option Nat)} {late : Bool} {i : Nat} {fs : M (List O)} {P : O → Env → Prop} (hc : isRecv c m ρ[i]? = true) (h : Ev (recvM late i fs) ρ fun os ρ1 => Ex f os fun r outs => P r (putOuts ss outs ρ1)) : Ev (eMCallI c m f ss late i fs) ρ P := by
  obtain ⟨r, ρ1, e, p⟩ := Ev_ecall (f := f) (ss := ss) h
  exact ⟨r, ρ1, by unfold eMCallI; rw [if_pos hc]; exact e, p⟩
theorem Ev_recvN {i : Nat} {fs : M (List O)} {P : List O → Env → Prop} (h : Ev (eaCons (eMove i) fs) ρ P) : Ev (recvM false i fs) ρ P := h
theorem Ev_recvL {i : Nat} {fs : M (List O)} {P : List O → Env → Prop} (h : Ev (eaLate i fs) ρ P) : Ev (recvM true i fs) ρ P := h
theorem Ev_dnew {P : O → Env → Prop} (h : P (.dct []) ρ) : Ev eDNew ρ P := ⟨_, _, rfl, h⟩
variable {N : Env → Prop} {R : O → Env → Prop} {B C : Env → Prop}
theorem S_tupO {is : List Nat} {fe : M O} (h : Ev fe ρ fun o ρ1 => ∃ os, o = .tup os ∧ os.length = is.length ∧ (is.all fun i => decide (i < ρ1.length)) = true ∧ N (setAll is os ρ1)) : EvS (sTupO is fe) ρ N R B C := by
  obtain ⟨o, ρ1, e, os, rfl, h1, h2, n⟩ := h
  exact ⟨.nx _, by unfold sTupO; simp only [e, h1, h2, and_self, if_true], n⟩
end
/-! ### a chain -/
def rowsO (rows : List (List Int)) : List O := (rowsD rows).map .pur
def tiersO (ts : List (Nat × Int)) : List O := (tiersD ts).map .pur
def pinsO (ps : List Nat) : List (Key × O) := ps.map fun (n : Nat) => (.inl (n : Int), .pur (.bl true))
def pinsK (ps : List Nat) : List (Key × D) := ps.map fun (n : Nat) => (.inl (n : Int), .bl true)
def chF (w : Nat) (es : List O) (sums : Nat → List Int) (ts : List (Nat × Int)) (fs ps : List Nat) (past later : List O) : O :=
  .ins "Chain" [("wide", .pur (.int w)), ("entries", .lst es), ("sums", .lst ((List.range w).map fun m => oints (sums m))), ("rows", .lst (tiersO ts)), ("firsts", .lst (nats fs)), ("pins", .dct (pinsO ps)), ("past", .lst past), ("later", .lst later)]
def chDF (w : Nat) (rows : List (List Int)) (sums : Nat → List Int) (ts : List (Nat × Int)) (fs ps : List Nat) (past later : List D) : D :=
  .ins "Chain" [("wide", .int w), ("entries", .lst (rowsD rows)), ("sums", .lst ((List.range w).map fun m => .lst ((sums m).map .int))), ("rows", .lst (tiersD ts)), ("firsts", .lst (fs.map fun f => .int (f : Nat))), ("pins", .dct (pinsK ps)), ("past", .lst past), ("later", .lst later)]
def sumsF (rows : List (List Int)) (m : Nat) : List Int := psums (col rows m) rows.length
def chO (w : Nat) (rows : List (List Int)) (ts : List (Nat × Int)) (fs ps : List Nat) (past later : List O) : O := chF w (rowsO rows) (sumsF rows) ts fs ps past later
def chD (w : Nat) (rows : List (List Int)) (ts : List (Nat × Int)) (fs ps : List Nat) (past later : List D) : D := chDF w rows (sumsF rows) ts fs ps past later
theorem fzK_pins : ∀ ps : List Nat, fzK (pinsO ps) = pinsK ps
  | [] => rfl
  | n :: ps => by
    have := fzK_pins ps
    unfold pinsO pinsK at this ⊢
    simp only [List.map_cons, fzK, O.fz, this]
theorem chF_fz (w : Nat) (rows : List (List Int)) (sums : Nat → List Int) (ts : List (Nat × Int)) (fs ps : List Nat) (past later : List O) : (chF w (rowsO rows) sums ts fs ps past later).fz = chDF w rows sums ts fs ps (fzs past) (fzs later) := by
  unfold chF chDF rowsO tiersO
  simp only [O.fz, fzF, fzs_purs, fzs_nats, fzK_pins]
  have : ∀ l : List Nat, fzs (l.map fun m => oints (sums m)) = l.map fun m => .lst ((sums m).map .int) := fun l => by
    induction l with
    | nil => rfl
    | cons m l ih => simp only [List.map_cons, fzs, oints_fz, ih]
  rw [this]
theorem chO_fz (w : Nat) (rows : List (List Int)) (ts : List (Nat × Int)) (fs ps : List Nat) (past later : List O) : (chO w rows ts fs ps past later).fz = chD w rows ts fs ps (fzs past) (fzs later) := chF_fz ..
def stO (rows : List (List Int)) (ts : List (Nat × Int)) (fs ps : List Nat) : O := .tup [.pur (.int (rows.length : Nat)), .lst (tiersO ts), .lst (nats fs), .dct (pinsO ps)]
/-! ### trimming, by its own going -/
def trG (xs : List Int) (lim : Int) (ps : List Nat) (s : Nat) : Nat → Nat → Nat
  | 0, f => f
  | n + 1, f => if lim < DL.Sh.ps xs s - DL.Sh.ps xs f ∧ f ∉ ps then trG xs lim ps s n (f + 1) else f
def tr1 (xs : List Int) (lim : Int) (ps : List Nat) (s f : Nat) : Nat := trG xs lim ps s (s - f) f
theorem trG_ge {xs : List Int} {lim : Int} {ps : List Nat} {s : Nat} : ∀ n f, f ≤ trG xs lim ps s n f ∧ trG xs lim ps s n f ≤ f + n
  | 0, f => by simp [trG]
  | n + 1, f => by
    unfold trG
    have := trG_ge (xs := xs) (lim := lim) (ps := ps) (s := s) n (f + 1)
    split <;> omega
theorem tr1_ge {xs : List Int} {lim : Int} {ps : List Nat} {s f : Nat} (h : f ≤ s) : f ≤ tr1 xs lim ps s f ∧ tr1 xs lim ps s f ≤ s := by
  have := trG_ge (xs := xs) (lim := lim) (ps := ps) (s := s) (s - f) f
  unfold tr1
  omega
theorem tr1_stop {xs : List Int} {lim : Int} {ps : List Nat} {s f : Nat} (h : ¬ (lim < DL.Sh.ps xs s - DL.Sh.ps xs f ∧ f ∉ ps)) : tr1 xs lim ps s f = f := by
  unfold tr1
  cases s - f with
  | zero => rfl
  | succ n =>
    show (if _ then _ else _) = _
    rw [if_neg h]
def trimL (rows : List (List Int)) (ps : List Nat) : List (Nat × Int) → List Nat → Nat → List Nat
  | t :: ts, f :: fs, s => tr1 (col rows t.1) t.2 ps s f :: trimL rows ps ts fs (tr1 (col rows t.1) t.2 ps s f)
  | _, _, _ => []
/-- each of the oldest entries is at most the one ahead of it -/
def Dsc : Nat → List Nat → Prop
  | _, [] => True
  | s, f :: fs => f ≤ s ∧ Dsc f fs
theorem Dsc.up {s s' : Nat} : ∀ {fs : List Nat}, Dsc s fs → s ≤ s' → Dsc s' fs
  | [], _, _ => trivial
  | f :: fs, h, k => ⟨by have := h.1; omega, h.2⟩
theorem trimL_len (rows : List (List Int)) (ps : List Nat) : ∀ (ts : List (Nat × Int)) (fs : List Nat) (s : Nat), fs.length = ts.length → (trimL rows ps ts fs s).length = ts.length
  | [], [], _, _ => rfl
  | t :: ts, f :: fs, s, h => by simp [trimL, trimL_len rows ps ts fs _ (by simpa using h)]
theorem trimL_dsc (rows : List (List Int)) (ps : List Nat) : ∀ (ts : List (Nat × Int)) (fs : List Nat) (s : Nat), Dsc s fs → Dsc s (trimL rows ps ts fs s)
  | [], [], _, _ => trivial
  | [], _ :: _, _, _ => trivial
  | t :: ts, [], s, h => trivial
  | t :: ts, f :: fs, s, h => by
    have := tr1_ge (xs := col rows t.1) (lim := t.2) (ps := ps) h.1
    exact ⟨this.2, trimL_dsc rows ps ts fs _ (h.2.up this.1)⟩
theorem append_any1 {os : List O} {o : O} (h : os.length ≤ 16777215) : opAppend os [o] = some (.pur .non, os ++ [o]) := by
  show (if os.length < sizeLine then some (O.pur D.non, os ++ [o]) else none) = _
  rw [if_pos (by rw [sizeLine_eq]; omega)]
/-- what is kept of a deed -/
def pastO (deed : D) (rows : List (List Int)) (ts : List (Nat × Int)) (fs ps : List Nat) : O := .tup [.pur deed, stO rows ts fs ps]
/-! ### a chain to which a log is added -/
end DL.Sh
set_option Elab.async false
set_option linter.all false
set_option maxRecDepth 100000
set_option maxHeartbeats 4000000
/-! More shared facts: logs one behind another, chains to which a log is added. -/
namespace DL.Sh
open PySem PySem.Spec PyProof.Rows L2
/-- one step backwards -/
local macro_rules | `(tactic| walk_at "e1") => `(tactic| first
  | with_reducible refine S_next ?_ | with_reducible refine S_ret ?_ | with_reducible refine S_drop ?_ | with_reducible refine S_if ?_ | with_reducible refine S_for ?_
  | with_reducible refine Ev_C ?_ | with_reducible refine Ev_fz ?_ | with_reducible refine Ev_pur ?_ | with_reducible refine Ev_op2 ?_ | with_reducible refine Ev_top2 ?_ | with_reducible refine Ev_op1 ?_ | with_reducible refine Ev_val ?_
  | with_reducible refine Ev_tand ?_ | with_reducible refine Ev_tor ?_ | with_reducible refine Ev_tnot ?_ | with_reducible refine Ev_and ?_ | with_reducible refine Ev_or ?_ | with_reducible refine Ev_not ?_ | with_reducible refine Ev_if ?_
  | with_reducible refine Ev_anil ?_ | with_reducible refine Ev_acons ?_ | with_reducible refine Ev_eanil ?_ | with_reducible refine Ev_eacons ?_ | with_reducible refine Ev_call ?_ | with_reducible refine Ev_onone ?_ | with_reducible refine Ev_osome ?_
  | with_reducible refine Ev_sl ?_ | with_reducible refine Ev_esl ?_ | with_reducible refine Ev_eop2 ?_ | with_reducible refine Ev_eargs ?_ | with_reducible refine Ev_iseq ?_ | with_reducible refine Ev_iargs ?_ | with_reducible refine Ev_yes ?_
  | with_reducible refine Ev_chain ?_ | with_reducible refine Ev_tchain ?_
  | (with_reducible refine Ev_tbor ?_; simp only [frzE, Option.map_some, Option.map_none, O.fz, fzs, fzs_ints, fzs_purs])
  | (with_reducible refine Ev_bor ?_; simp only [frzE, Option.map_some, Option.map_none, O.fz, fzs, fzs_ints, fzs_purs])
  | ((with_reducible show (if (!true) = true then _ else _)); rw [if_neg (by decide)]) | ((with_reducible show (if (!false) = true then _ else _)); rw [if_pos (by decide)])
  | with_reducible refine Ev_call1 ?_ | ((with_reducible show (if true = true then _ else _)); rw [if_pos rfl]) | ((with_reducible show (if false = true then _ else _)); rw [if_neg Bool.false_ne_true])
  | ((with_reducible show Ev (dVar _) _ _); refine Ev_var rfl ?_)
  | ((with_reducible show Ev (eMove _) _ _); refine Ev_move rfl ?_; (try simp only [List.set_cons_zero, List.set_cons_succ]))
  | ((with_reducible refine S_set ?_))
  | (with_reducible refine S_asg ?_)
  | ((with_reducible refine Ev_tup ?_)) | ((with_reducible refine Ev_lst ?_)) | ((with_reducible refine Ev_elst ?_)) | ((with_reducible refine Ev_etup ?_))
  | ((with_reducible show ∃ _, powD _ _ = some _ ∧ _); refine ⟨_, pow18, ?_⟩) | ((with_reducible show ∃ _, powD _ _ = some _ ∧ _); refine ⟨_, rfl, ?_⟩; simp only [Int.reduceToNat, Int.reducePow]) | ((with_reducible show ∃ _, addD _ _ = some _ ∧ _); refine ⟨_, add_ii _ _, ?_⟩) | ((with_reducible show ∃ _, eqD _ _ = some _ ∧ _); refine ⟨_, eq_dec _ _, ?_⟩) | ((with_reducible show ∃ _, neD _ _ = some _ ∧ _); refine ⟨_, ne_dec _ _, ?_⟩) | ((with_reducible show ∃ _, ltD _ _ = some _ ∧ _); refine ⟨_, lt_dec _ _, ?_⟩) | ((with_reducible show ∃ _, leD _ _ = some _ ∧ _); refine ⟨_, le_dec _ _, ?_⟩) | ((with_reducible show ∃ _, gtD _ _ = some _ ∧ _); refine ⟨_, gt_dec _ _, ?_⟩) | ((with_reducible show ∃ _, geD _ _ = some _ ∧ _); refine ⟨_, ge_dec _ _, ?_⟩) | ((with_reducible show ∃ _, subD _ _ = some _ ∧ _); refine ⟨_, sub_ii _ _, ?_⟩) | ((with_reducible show ∃ _, negD _ = some _ ∧ _); refine ⟨_, neg_i _, ?_⟩)
  | ((with_reducible show ∃ _, mulD _ _ = some _ ∧ _); refine ⟨_, mul_ii (by omega), ?_⟩) | ((with_reducible show ∃ _, modD _ _ = some _ ∧ _); refine ⟨_, mod_ii (by omega), ?_⟩) | ((with_reducible show ∃ _, divD _ _ = some _ ∧ _); refine ⟨_, div_ii (by omega) (by omega), ?_⟩)
  | ((with_reducible show ∃ _, mixE _ _ _ = some _ ∧ _); refine ⟨_, mix_nil rfl, ?_⟩)
  | ((with_reducible show _ < List.length _ ∧ _); refine ⟨of_decide_eq_true rfl, ?_⟩; (try simp only [List.set_cons_zero, List.set_cons_succ, O.fz, fzs_ints, fzs_purs, keepE_cons, keepE_nil, wipeE]))
  | ((with_reducible show (_ < List.length _ ∧ _) ∧ _); refine ⟨of_decide_eq_true rfl, ?_⟩; (try simp only [List.set_cons_zero, List.set_cons_succ, O.fz, fzs_ints, fzs_purs, keepE_cons, keepE_nil, wipeE]))
  | ((with_reducible show List.length _ ≤ 1000 ∧ _); refine ⟨of_decide_eq_true rfl, ?_⟩; (try simp only [List.set_cons_zero, List.set_cons_succ, O.fz, fzs_ints, fzs_purs, keepE_cons, keepE_nil, wipeE]))
  | ((with_reducible show flatO _ = true ∧ _); refine ⟨rfl, ?_⟩)
  | ((with_reducible show Ev (eaLate _ _) _ _); refine Ev_late rfl ?_)
  | with_reducible refine S_setIx ?_
  | ((with_reducible show EvS (sAugIx _ _ _ _) _ _ _ _ _); refine S_augIx rfl ?_)
  | ((with_reducible show EvS (sAug _ _ _) _ _ _ _ _); refine S_aug rfl ?_)
  | ((with_reducible show ∃ a b c, _ = D.int a ∧ _ ∧ _ ∧ _); refine ⟨_, _, _, rfl, rfl, rfl, ?_⟩; simp only [List.set_cons_zero, List.set_cons_succ, Int.toNat_ofNat, Int.reduceToNat])
  | ((with_reducible show ∃ a b c, _ = D.int a ∧ _ ∧ _ ∧ _); refine ⟨_, _, _, rfl, rfl, rfl, ?_⟩)
  | ((with_reducible show ∃ _, ixD _ _ = some _ ∧ _); refine ⟨_, rfl, ?_⟩)
  | ((with_reducible show ∃ _, lenD _ = some _ ∧ _); refine ⟨_, rfl, ?_⟩)
  | ((with_reducible show ∃ _, absD _ = some _ ∧ _); refine ⟨_, rfl, ?_⟩)
  | ((with_reducible show ∃ _, itemsD _ = some _ ∧ _); refine ⟨_, rfl, ?_⟩)
  | ((with_reducible show ∃ _, tupleD _ = some _ ∧ _); refine ⟨_, rfl, ?_⟩)
  | ((with_reducible show ∃ _, listD _ = some _ ∧ _); refine ⟨_, rfl, ?_⟩)
  | ((with_reducible show ∃ _, listL _ = some _ ∧ _); refine ⟨_, rfl, ?_⟩)
  | ((with_reducible show ∃ _, toIntD _ = some _ ∧ _); refine ⟨_, rfl, ?_⟩)
  | ((with_reducible show ∃ _, isD _ _ = some _ ∧ _); refine ⟨_, rfl, ?_⟩)
  | ((with_reducible show ∃ _, isNotD _ _ = some _ ∧ _); refine ⟨_, rfl, ?_⟩)
  | ((with_reducible show ∃ _, takeS _ _ = some _ ∧ _); refine ⟨_, rfl, ?_⟩)
  | ((with_reducible show ∃ _, fName _ _ _ = some _ ∧ _); refine ⟨_, rfl, ?_⟩; (try simp only [List.set_cons_zero, List.set_cons_succ]))
  | ((with_reducible show ∃ _, fTup _ _ _ _ = some _ ∧ _); refine ⟨_, rfl, ?_⟩; (try simp only [List.set_cons_zero, List.set_cons_succ]))
  | ((with_reducible show ∃ _, slD _ _ _ = some _ ∧ _); refine ⟨_, rfl, ?_⟩)
  | ((with_reducible show ∃ _, slL _ _ _ = some _ ∧ _); refine ⟨_, rfl, ?_⟩)
  | ((with_reducible show ∃ _, List.set _ _ _ = some _ ∧ _); refine ⟨_, rfl, ?_⟩)
  | ((with_reducible show ∃ _, getElem? _ _ = some _ ∧ _); refine ⟨_, rfl, ?_⟩)
  | ((with_reducible show ∃ _, rangeD1 [D.int (Nat.cast _)] = some _ ∧ _); refine ⟨_, range_nat (by omega), ?_⟩) | ((with_reducible show ∃ _, rangeD1 _ = some _ ∧ _); refine ⟨_, range_lit (by omega) (by omega), ?_⟩)
  | ((with_reducible show ∃ _, _ = D.int _ ∧ _); refine ⟨_, rfl, ?_⟩)
  | ((with_reducible show ∃ _, maxD [D.int _, D.int _] = some _ ∧ _); refine ⟨_, rfl, ?_⟩) | ((with_reducible show ∃ _, minD [D.int _, D.int _] = some _ ∧ _); refine ⟨_, rfl, ?_⟩)
  | ((with_reducible show ∃ _, truD _ = some _ ∧ _); refine ⟨_, rfl, ?_⟩)
  | ((with_reducible show ∃ _, _ = D.bl _ ∧ _); refine ⟨_, rfl, ?_⟩)
  | ((with_reducible show ∃ _, neD (.str _) (.str _) = some _ ∧ _); refine ⟨_, ne_str _, ?_⟩) | ((with_reducible show ∃ _, eqD (.str _) (.str _) = some _ ∧ _); refine ⟨_, eq_str _, ?_⟩))
local macro_rules | `(tactic| walk_at "e") => `(tactic| repeat walk_at "e1")
local macro_rules | `(tactic| walk_at "s") => `(tactic| repeat (first | with_reducible refine S_seq ?_ | walk_at "e1"))
local macro_rules | `(tactic| walk_at "n") => `(tactic| try simp only [List.set_cons_zero, List.set_cons_succ, O.fz, fzs_ints, fzs_purs, keepE_cons, keepE_nil, wipeE])
local macro_rules | `(tactic| walk_at "e1") => `(tactic| ((with_reducible show Ev (eCall f_law_take _ _) _ _); refine Ev_take rfl (by assumption) ?_; (try simp only [List.set_cons_zero, List.set_cons_succ])))
local macro_rules | `(tactic| walk_at "e1") => `(tactic| ((with_reducible show ∀ _ _, _ → _ → BagOk _ → _); intro r o' h1 h2 hb; (try simp only [List.set_cons_zero, List.set_cons_succ, O.fz])))
local macro_rules | `(tactic| walk_at "e1") => `(tactic| ((with_reducible show _ < _ ∧ _); refine ⟨by omega, ?_⟩))
local macro_rules | `(tactic| walk_at "e1") => `(tactic| ((with_reducible show Ev (eCall f_law_size _ _) _ _); refine Ev_size rfl (by assumption) ?_; (try simp only [List.set_cons_zero, List.set_cons_succ])))
local macro_rules | `(tactic| walk_at "e1") => `(tactic| ((with_reducible show ∃ _, lenD [D.lst (rowsD _)] = some _ ∧ _); refine ⟨_, rfl, ?_⟩; rw [rowsD_len]))
local macro_rules | `(tactic| walk_at "e1") => `(tactic| ((with_reducible show ∃ _, isaD _ = some _ ∧ _); refine ⟨_, rfl, ?_⟩))
local macro_rules | `(tactic| walk_at "e1") => `(tactic| ((with_reducible show ∃ _, rangeD1 [D.int (_ + 1)] = some _ ∧ _); refine ⟨_, range_succ' (by omega), ?_⟩))
local macro_rules | `(tactic| walk_at "e1") => `(tactic| ((with_reducible show ∃ _, rangeD1 [D.int (1 + _)] = some _ ∧ _); refine ⟨_, range_one_add (by omega) (by omega), ?_⟩))
local macro_rules | `(tactic| walk_at "e1") => `(tactic| ((with_reducible show EvS (sFrz _ _) _ _ _ _ _); refine S_frz rfl ?_; (try simp only [List.set_cons_zero, List.set_cons_succ, O.fz, fzs, fzs_ints, fzs_purs])))
local macro_rules | `(tactic| walk_at "e1") => `(tactic| first | with_reducible refine S_par2 ?_ | with_reducible refine S_par3 ?_)
local macro_rules | `(tactic| walk_at "e1") => `(tactic| ((with_reducible show ∃ o1 o2 : O, _ = [o1, o2] ∧ _); refine ⟨_, _, rfl, ?_⟩))
local macro_rules | `(tactic| walk_at "e1") => `(tactic| ((with_reducible show ∃ o1 o2 o3 : O, _ = [o1, o2, o3] ∧ _); refine ⟨_, _, _, rfl, ?_⟩))
local macro_rules | `(tactic| walk_at "e1") => `(tactic| ((with_reducible show (_ < List.length _ ∧ _ < List.length _ ∧ _ < List.length _) ∧ _); refine ⟨of_decide_eq_true rfl, ?_⟩; (try simp only [List.set_cons_zero, List.set_cons_succ, O.fz, fzs_ints, fzs_purs, keepE_cons, keepE_nil, wipeE])))
local macro_rules | `(tactic| walk_at "e1") => `(tactic| first
  | ((with_reducible show Ev (eMCallD _ _ _ _ _) _ _); refine Ev_mcallD (fun _ _ _ h => runB_nil h) ?_)
  | ((with_reducible show Ev (eMCallK _ _ _ _ _ _) _ _); refine Ev_mcallK (fun _ _ _ h => runB_nil h) ?_)
  | ((with_reducible show Ev (eCallK _ _ _) _ _); refine Ev_callK (fun _ _ _ h => runB_nil h) ?_)
  | with_reducible refine Ev_make ?_
  | ((with_reducible show ∃ _, fldD "Endless" "wide" (endD _ _) = some _ ∧ _); refine ⟨_, end_wide, ?_⟩)
  | ((with_reducible show ∃ _, fldD "Endless" "rows" (endD _ _) = some _ ∧ _); refine ⟨_, end_rows, ?_⟩)
  | ((with_reducible show ∃ _, fldD "Endless" "sums" (endD _ _) = some _ ∧ _); refine ⟨_, end_sums, ?_⟩)
  | ((with_reducible show isIns _ _ (endD _ _) = true ∧ _); refine ⟨rfl, ?_⟩)
  | ((with_reducible show ∃ _, divmodD [D.int _, D.int _] = some _ ∧ _); refine ⟨_, divmod_ii (by omega) (by omega), ?_⟩)
  | ((with_reducible show ∃ _, lenD [mapL _ _] = some _ ∧ _); refine ⟨_, mapL_len, ?_⟩)
  | ((with_reducible show ∃ _, itemsD (mapL _ _) = some _ ∧ _); refine ⟨_, mapL_items, ?_⟩)
  | ((with_reducible show (if isNon (D.int _) = true then _ else _)); rw [if_neg (show ¬ (isNon (D.int _) = true) from Bool.false_ne_true)])
  | ((with_reducible show (if isNon D.non = true then _ else _)); rw [if_pos (show isNon D.non = true from rfl)])
  | ((with_reducible show (if (!isNon (D.int _)) = true then _ else _)); rw [if_pos (show (!isNon (D.int _)) = true from rfl)])
  | ((with_reducible show (if (!isNon D.non) = true then _ else _)); rw [if_neg (show ¬ ((!isNon D.non) = true) from Bool.false_ne_true)])
  | ((with_reducible show (if isNon (mapL _ _) = true then _ else _)); rw [if_neg (show ¬ (isNon (mapL _ _) = true) from Bool.false_ne_true)])
  | ((with_reducible show (if isNon (jD none) = true then _ else _)); rw [if_pos (show isNon (jD none) = true from rfl)])
  | ((with_reducible show (if isNon (jD (some _)) = true then _ else _)); rw [if_neg (show ¬ (isNon (jD (some _)) = true) from Bool.false_ne_true)])
  | ((with_reducible show (if (!isNon (jD none)) = true then _ else _)); rw [if_neg (show ¬ ((!isNon (jD none)) = true) from Bool.false_ne_true)])
  | ((with_reducible show (if (!isNon (jD (some _))) = true then _ else _)); rw [if_pos (show (!isNon (jD (some _))) = true from rfl)])
  | with_reducible refine Ev_methT ?_)
local macro_rules | `(tactic| walk_at "e1") => `(tactic| first
  | ((with_reducible show EvS (sTupO _ _) _ _ _ _ _); refine S_tupO ?_)
  | ((with_reducible show Ev eDNew _ _); refine Ev_dnew ?_)
  | ((with_reducible show Ev (eMCallI _ _ _ _ false _ _) _ _); refine Ev_mcallI rfl (Ev_recvN ?_))
  | ((with_reducible show Ev (eMCallI _ _ _ _ true _ _) _ _); refine Ev_mcallI rfl (Ev_recvL ?_))
  | ((with_reducible show ∃ os : List O, O.tup _ = O.tup os ∧ _ ∧ _ ∧ _); refine ⟨_, rfl, rfl, of_decide_eq_true rfl, ?_⟩; simp only [setAll, List.set_cons_zero, List.set_cons_succ])
  | ((with_reducible show isIns _ _ (chD _ _ _ _ _ _ _) = true ∧ _); refine ⟨rfl, ?_⟩))
end DL.Sh
set_option Elab.async false
set_option linter.all false
set_option maxRecDepth 100000
set_option maxHeartbeats 4000000
/-! The same comparisons, the same chain. -/
namespace DL.Sh
open PySem PySem.Spec PyProof.Rows L2
/-- one step backwards -/
local macro_rules | `(tactic| walk_at "e1") => `(tactic| first
  | with_reducible refine S_next ?_ | with_reducible refine S_ret ?_ | with_reducible refine S_drop ?_ | with_reducible refine S_if ?_ | with_reducible refine S_for ?_
  | with_reducible refine Ev_C ?_ | with_reducible refine Ev_fz ?_ | with_reducible refine Ev_pur ?_ | with_reducible refine Ev_op2 ?_ | with_reducible refine Ev_top2 ?_ | with_reducible refine Ev_op1 ?_ | with_reducible refine Ev_val ?_
  | with_reducible refine Ev_tand ?_ | with_reducible refine Ev_tor ?_ | with_reducible refine Ev_tnot ?_ | with_reducible refine Ev_and ?_ | with_reducible refine Ev_or ?_ | with_reducible refine Ev_not ?_ | with_reducible refine Ev_if ?_
  | with_reducible refine Ev_anil ?_ | with_reducible refine Ev_acons ?_ | with_reducible refine Ev_eanil ?_ | with_reducible refine Ev_eacons ?_ | with_reducible refine Ev_call ?_ | with_reducible refine Ev_onone ?_ | with_reducible refine Ev_osome ?_
  | with_reducible refine Ev_sl ?_ | with_reducible refine Ev_esl ?_ | with_reducible refine Ev_eop2 ?_ | with_reducible refine Ev_eargs ?_ | with_reducible refine Ev_iseq ?_ | with_reducible refine Ev_iargs ?_ | with_reducible refine Ev_yes ?_
  | with_reducible refine Ev_chain ?_ | with_reducible refine Ev_tchain ?_
  | (with_reducible refine Ev_tbor ?_; simp only [frzE, Option.map_some, Option.map_none, O.fz, fzs, fzs_ints, fzs_purs])
  | (with_reducible refine Ev_bor ?_; simp only [frzE, Option.map_some, Option.map_none, O.fz, fzs, fzs_ints, fzs_purs])
  | ((with_reducible show (if (!true) = true then _ else _)); rw [if_neg (by decide)]) | ((with_reducible show (if (!false) = true then _ else _)); rw [if_pos (by decide)])
  | with_reducible refine Ev_call1 ?_ | ((with_reducible show (if true = true then _ else _)); rw [if_pos rfl]) | ((with_reducible show (if false = true then _ else _)); rw [if_neg Bool.false_ne_true])
  | ((with_reducible show Ev (dVar _) _ _); refine Ev_var rfl ?_)
  | ((with_reducible show Ev (eMove _) _ _); refine Ev_move rfl ?_; (try simp only [List.set_cons_zero, List.set_cons_succ]))
  | ((with_reducible refine S_set ?_))
  | (with_reducible refine S_asg ?_)
  | ((with_reducible refine Ev_tup ?_)) | ((with_reducible refine Ev_lst ?_)) | ((with_reducible refine Ev_elst ?_)) | ((with_reducible refine Ev_etup ?_))
  | ((with_reducible show ∃ _, powD _ _ = some _ ∧ _); refine ⟨_, pow18, ?_⟩) | ((with_reducible show ∃ _, powD _ _ = some _ ∧ _); refine ⟨_, rfl, ?_⟩; simp only [Int.reduceToNat, Int.reducePow]) | ((with_reducible show ∃ _, addD _ _ = some _ ∧ _); refine ⟨_, add_ii _ _, ?_⟩) | ((with_reducible show ∃ _, eqD _ _ = some _ ∧ _); refine ⟨_, eq_dec _ _, ?_⟩) | ((with_reducible show ∃ _, neD _ _ = some _ ∧ _); refine ⟨_, ne_dec _ _, ?_⟩) | ((with_reducible show ∃ _, ltD _ _ = some _ ∧ _); refine ⟨_, lt_dec _ _, ?_⟩) | ((with_reducible show ∃ _, leD _ _ = some _ ∧ _); refine ⟨_, le_dec _ _, ?_⟩) | ((with_reducible show ∃ _, gtD _ _ = some _ ∧ _); refine ⟨_, gt_dec _ _, ?_⟩) | ((with_reducible show ∃ _, geD _ _ = some _ ∧ _); refine ⟨_, ge_dec _ _, ?_⟩) | ((with_reducible show ∃ _, subD _ _ = some _ ∧ _); refine ⟨_, sub_ii _ _, ?_⟩) | ((with_reducible show ∃ _, negD _ = some _ ∧ _); refine ⟨_, neg_i _, ?_⟩)
  | ((with_reducible show ∃ _, mulD _ _ = some _ ∧ _); refine ⟨_, mul_ii (by omega), ?_⟩) | ((with_reducible show ∃ _, modD _ _ = some _ ∧ _); refine ⟨_, mod_ii (by omega), ?_⟩) | ((with_reducible show ∃ _, divD _ _ = some _ ∧ _); refine ⟨_, div_ii (by omega) (by omega), ?_⟩)
  | ((with_reducible show ∃ _, mixE _ _ _ = some _ ∧ _); refine ⟨_, mix_nil rfl, ?_⟩)
  | ((with_reducible show _ < List.length _ ∧ _); refine ⟨of_decide_eq_true rfl, ?_⟩; (try simp only [List.set_cons_zero, List.set_cons_succ, O.fz, fzs_ints, fzs_purs, keepE_cons, keepE_nil, wipeE]))
  | ((with_reducible show (_ < List.length _ ∧ _) ∧ _); refine ⟨of_decide_eq_true rfl, ?_⟩; (try simp only [List.set_cons_zero, List.set_cons_succ, O.fz, fzs_ints, fzs_purs, keepE_cons, keepE_nil, wipeE]))
  | ((with_reducible show List.length _ ≤ 1000 ∧ _); refine ⟨of_decide_eq_true rfl, ?_⟩; (try simp only [List.set_cons_zero, List.set_cons_succ, O.fz, fzs_ints, fzs_purs, keepE_cons, keepE_nil, wipeE]))
  | ((with_reducible show flatO _ = true ∧ _); refine ⟨rfl, ?_⟩)
  | ((with_reducible show Ev (eaLate _ _) _ _); refine Ev_late rfl ?_)
  | with_reducible refine S_setIx ?_
  | ((with_reducible show EvS (sAugIx _ _ _ _) _ _ _ _ _); refine S_augIx rfl ?_)
  | ((with_reducible show EvS (sAug _ _ _) _ _ _ _ _); refine S_aug rfl ?_)
  | ((with_reducible show ∃ a b c, _ = D.int a ∧ _ ∧ _ ∧ _); refine ⟨_, _, _, rfl, rfl, rfl, ?_⟩; simp only [List.set_cons_zero, List.set_cons_succ, Int.toNat_ofNat, Int.reduceToNat])
  | ((with_reducible show ∃ a b c, _ = D.int a ∧ _ ∧ _ ∧ _); refine ⟨_, _, _, rfl, rfl, rfl, ?_⟩)
  | ((with_reducible show ∃ _, ixD _ _ = some _ ∧ _); refine ⟨_, rfl, ?_⟩)
  | ((with_reducible show ∃ _, lenD _ = some _ ∧ _); refine ⟨_, rfl, ?_⟩)
  | ((with_reducible show ∃ _, absD _ = some _ ∧ _); refine ⟨_, rfl, ?_⟩)
  | ((with_reducible show ∃ _, itemsD _ = some _ ∧ _); refine ⟨_, rfl, ?_⟩)
  | ((with_reducible show ∃ _, tupleD _ = some _ ∧ _); refine ⟨_, rfl, ?_⟩)
  | ((with_reducible show ∃ _, listD _ = some _ ∧ _); refine ⟨_, rfl, ?_⟩)
  | ((with_reducible show ∃ _, listL _ = some _ ∧ _); refine ⟨_, rfl, ?_⟩)
  | ((with_reducible show ∃ _, toIntD _ = some _ ∧ _); refine ⟨_, rfl, ?_⟩)
  | ((with_reducible show ∃ _, isD _ _ = some _ ∧ _); refine ⟨_, rfl, ?_⟩)
  | ((with_reducible show ∃ _, isNotD _ _ = some _ ∧ _); refine ⟨_, rfl, ?_⟩)
  | ((with_reducible show ∃ _, takeS _ _ = some _ ∧ _); refine ⟨_, rfl, ?_⟩)
  | ((with_reducible show ∃ _, fName _ _ _ = some _ ∧ _); refine ⟨_, rfl, ?_⟩; (try simp only [List.set_cons_zero, List.set_cons_succ]))
  | ((with_reducible show ∃ _, fTup _ _ _ _ = some _ ∧ _); refine ⟨_, rfl, ?_⟩; (try simp only [List.set_cons_zero, List.set_cons_succ]))
  | ((with_reducible show ∃ _, slD _ _ _ = some _ ∧ _); refine ⟨_, rfl, ?_⟩)
  | ((with_reducible show ∃ _, slL _ _ _ = some _ ∧ _); refine ⟨_, rfl, ?_⟩)
  | ((with_reducible show ∃ _, List.set _ _ _ = some _ ∧ _); refine ⟨_, rfl, ?_⟩)
  | ((with_reducible show ∃ _, getElem? _ _ = some _ ∧ _); refine ⟨_, rfl, ?_⟩)
  | ((with_reducible show ∃ _, rangeD1 [D.int (Nat.cast _)] = some _ ∧ _); refine ⟨_, range_nat (by omega), ?_⟩) | ((with_reducible show ∃ _, rangeD1 _ = some _ ∧ _); refine ⟨_, range_lit (by omega) (by omega), ?_⟩)
  | ((with_reducible show ∃ _, _ = D.int _ ∧ _); refine ⟨_, rfl, ?_⟩)
  | ((with_reducible show ∃ _, maxD [D.int _, D.int _] = some _ ∧ _); refine ⟨_, rfl, ?_⟩) | ((with_reducible show ∃ _, minD [D.int _, D.int _] = some _ ∧ _); refine ⟨_, rfl, ?_⟩)
  | ((with_reducible show ∃ _, truD _ = some _ ∧ _); refine ⟨_, rfl, ?_⟩)
  | ((with_reducible show ∃ _, _ = D.bl _ ∧ _); refine ⟨_, rfl, ?_⟩)
  | ((with_reducible show ∃ _, neD (.str _) (.str _) = some _ ∧ _); refine ⟨_, ne_str _, ?_⟩) | ((with_reducible show ∃ _, eqD (.str _) (.str _) = some _ ∧ _); refine ⟨_, eq_str _, ?_⟩))
local macro_rules | `(tactic| walk_at "e") => `(tactic| repeat walk_at "e1")
local macro_rules | `(tactic| walk_at "s") => `(tactic| repeat (first | with_reducible refine S_seq ?_ | walk_at "e1"))
local macro_rules | `(tactic| walk_at "n") => `(tactic| try simp only [List.set_cons_zero, List.set_cons_succ, O.fz, fzs_ints, fzs_purs, keepE_cons, keepE_nil, wipeE])
local macro_rules | `(tactic| walk_at "e1") => `(tactic| ((with_reducible show Ev (eCall f_law_take _ _) _ _); refine Ev_take rfl (by assumption) ?_; (try simp only [List.set_cons_zero, List.set_cons_succ])))
local macro_rules | `(tactic| walk_at "e1") => `(tactic| ((with_reducible show ∀ _ _, _ → _ → BagOk _ → _); intro r o' h1 h2 hb; (try simp only [List.set_cons_zero, List.set_cons_succ, O.fz])))
local macro_rules | `(tactic| walk_at "e1") => `(tactic| ((with_reducible show _ < _ ∧ _); refine ⟨by omega, ?_⟩))
local macro_rules | `(tactic| walk_at "e1") => `(tactic| ((with_reducible show Ev (eCall f_law_size _ _) _ _); refine Ev_size rfl (by assumption) ?_; (try simp only [List.set_cons_zero, List.set_cons_succ])))
local macro_rules | `(tactic| walk_at "e1") => `(tactic| ((with_reducible show ∃ _, lenD [D.lst (rowsD _)] = some _ ∧ _); refine ⟨_, rfl, ?_⟩; rw [rowsD_len]))
local macro_rules | `(tactic| walk_at "e1") => `(tactic| ((with_reducible show ∃ _, isaD _ = some _ ∧ _); refine ⟨_, rfl, ?_⟩))
local macro_rules | `(tactic| walk_at "e1") => `(tactic| ((with_reducible show ∃ _, rangeD1 [D.int (_ + 1)] = some _ ∧ _); refine ⟨_, range_succ' (by omega), ?_⟩))
local macro_rules | `(tactic| walk_at "e1") => `(tactic| ((with_reducible show ∃ _, rangeD1 [D.int (1 + _)] = some _ ∧ _); refine ⟨_, range_one_add (by omega) (by omega), ?_⟩))
local macro_rules | `(tactic| walk_at "e1") => `(tactic| ((with_reducible show EvS (sFrz _ _) _ _ _ _ _); refine S_frz rfl ?_; (try simp only [List.set_cons_zero, List.set_cons_succ, O.fz, fzs, fzs_ints, fzs_purs])))
local macro_rules | `(tactic| walk_at "e1") => `(tactic| first | with_reducible refine S_par2 ?_ | with_reducible refine S_par3 ?_)
local macro_rules | `(tactic| walk_at "e1") => `(tactic| ((with_reducible show ∃ o1 o2 : O, _ = [o1, o2] ∧ _); refine ⟨_, _, rfl, ?_⟩))
local macro_rules | `(tactic| walk_at "e1") => `(tactic| ((with_reducible show ∃ o1 o2 o3 : O, _ = [o1, o2, o3] ∧ _); refine ⟨_, _, _, rfl, ?_⟩))
local macro_rules | `(tactic| walk_at "e1") => `(tactic| ((with_reducible show (_ < List.length _ ∧ _ < List.length _ ∧ _ < List.length _) ∧ _); refine ⟨of_decide_eq_true rfl, ?_⟩; (try simp only [List.set_cons_zero, List.set_cons_succ, O.fz, fzs_ints, fzs_purs, keepE_cons, keepE_nil, wipeE])))
local macro_rules | `(tactic| walk_at "e1") => `(tactic| first
  | ((with_reducible show Ev (eMCallD _ _ _ _ _) _ _); refine Ev_mcallD (fun _ _ _ h => runB_nil h) ?_)
  | ((with_reducible show Ev (eMCallK _ _ _ _ _ _) _ _); refine Ev_mcallK (fun _ _ _ h => runB_nil h) ?_)
  | ((with_reducible show Ev (eCallK _ _ _) _ _); refine Ev_callK (fun _ _ _ h => runB_nil h) ?_)
  | with_reducible refine Ev_make ?_
  | ((with_reducible show ∃ _, fldD "Endless" "wide" (endD _ _) = some _ ∧ _); refine ⟨_, end_wide, ?_⟩)
  | ((with_reducible show ∃ _, fldD "Endless" "rows" (endD _ _) = some _ ∧ _); refine ⟨_, end_rows, ?_⟩)
  | ((with_reducible show ∃ _, fldD "Endless" "sums" (endD _ _) = some _ ∧ _); refine ⟨_, end_sums, ?_⟩)
  | ((with_reducible show isIns _ _ (endD _ _) = true ∧ _); refine ⟨rfl, ?_⟩)
  | ((with_reducible show ∃ _, divmodD [D.int _, D.int _] = some _ ∧ _); refine ⟨_, divmod_ii (by omega) (by omega), ?_⟩)
  | ((with_reducible show ∃ _, lenD [mapL _ _] = some _ ∧ _); refine ⟨_, mapL_len, ?_⟩)
  | ((with_reducible show ∃ _, itemsD (mapL _ _) = some _ ∧ _); refine ⟨_, mapL_items, ?_⟩)
  | ((with_reducible show (if isNon (D.int _) = true then _ else _)); rw [if_neg (show ¬ (isNon (D.int _) = true) from Bool.false_ne_true)])
  | ((with_reducible show (if isNon D.non = true then _ else _)); rw [if_pos (show isNon D.non = true from rfl)])
  | ((with_reducible show (if (!isNon (D.int _)) = true then _ else _)); rw [if_pos (show (!isNon (D.int _)) = true from rfl)])
  | ((with_reducible show (if (!isNon D.non) = true then _ else _)); rw [if_neg (show ¬ ((!isNon D.non) = true) from Bool.false_ne_true)])
  | ((with_reducible show (if isNon (mapL _ _) = true then _ else _)); rw [if_neg (show ¬ (isNon (mapL _ _) = true) from Bool.false_ne_true)])
  | ((with_reducible show (if isNon (jD none) = true then _ else _)); rw [if_pos (show isNon (jD none) = true from rfl)])
  | ((with_reducible show (if isNon (jD (some _)) = true then _ else _)); rw [if_neg (show ¬ (isNon (jD (some _)) = true) from Bool.false_ne_true)])
  | ((with_reducible show (if (!isNon (jD none)) = true then _ else _)); rw [if_neg (show ¬ ((!isNon (jD none)) = true) from Bool.false_ne_true)])
  | ((with_reducible show (if (!isNon (jD (some _))) = true then _ else _)); rw [if_pos (show (!isNon (jD (some _))) = true from rfl)])
  | with_reducible refine Ev_methT ?_)
local macro_rules | `(tactic| walk_at "e1") => `(tactic| first
  | ((with_reducible show EvS (sTupO _ _) _ _ _ _ _); refine S_tupO ?_)
  | ((with_reducible show Ev eDNew _ _); refine Ev_dnew ?_)
  | ((with_reducible show Ev (eMCallI _ _ _ _ false _ _) _ _); refine Ev_mcallI rfl (Ev_recvN ?_))
  | ((with_reducible show Ev (eMCallI _ _ _ _ true _ _) _ _); refine Ev_mcallI rfl (Ev_recvL ?_))
  | ((with_reducible show ∃ os : List O, O.tup _ = O.tup os ∧ _ ∧ _ ∧ _); refine ⟨_, rfl, rfl, of_decide_eq_true rfl, ?_⟩; simp only [setAll, List.set_cons_zero, List.set_cons_succ])
  | ((with_reducible show isIns _ _ (chD _ _ _ _ _ _ _) = true ∧ _); refine ⟨rfl, ?_⟩))
/-- sums compare with the limits alike -/
def SameC (A : List (List Int)) (t : Nat × Int) (B : List (List Int)) (u : Nat × Int) : Prop := ∀ a b, a ≤ b → b ≤ A.length → (t.2 < ps (col A t.1) b - ps (col A t.1) a ↔ u.2 < ps (col B u.1) b - ps (col B u.1) a)
def SameL (A B : List (List Int)) : List (Nat × Int) → List (Nat × Int) → Prop
  | [], [] => True
  | t :: ts, u :: us => SameC A t B u ∧ SameL A B ts us
  | _, _ => False
theorem SameL.append {A B : List (List Int)} : ∀ {ts us ts' us' : List (Nat × Int)}, SameL A B ts us → SameL A B ts' us' → SameL A B (ts ++ ts') (us ++ us')
  | [], [], _, _, _, h => h
  | [], _ :: _, _, _, h, _ => h.elim
  | _ :: _, [], _, _, h, _ => h.elim
  | t :: ts, u :: us, _, _, h, k => ⟨h.1, h.2.append k⟩
theorem SameL.take {A B : List (List Int)} : ∀ {ts us : List (Nat × Int)} (k : Nat), SameL A B ts us → SameL A B (ts.take k) (us.take k)
  | _, _, 0, _ => by rw [List.take_zero, List.take_zero]; trivial
  | [], [], _ + 1, h => h
  | [], _ :: _, _, h => h.elim
  | _ :: _, [], _, h => h.elim
  | t :: ts, u :: us, k + 1, h => ⟨h.1, h.2.take k⟩
theorem SameL.len {A B : List (List Int)} : ∀ {ts us : List (Nat × Int)}, SameL A B ts us → us.length = ts.length
  | [], [], _ => rfl
  | [], _ :: _, h => h.elim
  | _ :: _, [], h => h.elim
  | t :: ts, u :: us, h => by rw [List.length_cons, List.length_cons, h.2.len]
theorem SameL.map {A B : List (List Int)} (f : Nat × Int → Nat × Int) : ∀ {ts : List (Nat × Int)}, (∀ t ∈ ts, SameC A t B (f t)) → SameL A B ts (ts.map f)
  | [], _ => trivial
  | t :: ts, h => ⟨h t (by simp), SameL.map f fun x hx => h x (List.mem_cons_of_mem _ hx)⟩
theorem SameC.c {A B : List (List Int)} {t u : Nat × Int} (h : SameC A t B u) : ∀ a b, a ≤ b → b ≤ (col A t.1).length → (t.2 < ps (col A t.1) b - ps (col A t.1) a ↔ u.2 < ps (col B u.1) b - ps (col B u.1) a) := fun a b h1 h2 => h a b h1 (by rwa [col_len] at h2)
end DL.Sh
set_option Elab.async false
set_option linter.all false
set_option maxRecDepth 100000
set_option maxHeartbeats 4000000
/-! The data layer: len of an instance that counts itself. -/
namespace DL
open PySem PySem.Spec PyProof.Rows L2
end DL
set_option Elab.async false
set_option linter.all false
set_option maxRecDepth 100000
set_option maxHeartbeats 4000000
/-! What a chain answers. -/
namespace DL.Sh
open PySem PySem.Spec PyProof.Rows L2
theorem ch_firsts {w : Nat} {rows : List (List Int)} {ts : List (Nat × Int)} {fs ps : List Nat} {past later : List D} : fldD "Chain" "firsts" (chD w rows ts fs ps past later) = some (.lst (fs.map fun f => .int (f : Nat))) := rfl
theorem ch_entries {w : Nat} {rows : List (List Int)} {ts : List (Nat × Int)} {fs ps : List Nat} {past later : List D} : fldD "Chain" "entries" (chD w rows ts fs ps past later) = some (.lst (rowsD rows)) := rfl
theorem ch_rows {w : Nat} {rows : List (List Int)} {ts : List (Nat × Int)} {fs ps : List Nat} {past later : List D} : fldD "Chain" "rows" (chD w rows ts fs ps past later) = some (.lst (tiersD ts)) := rfl
theorem ch_sums {w : Nat} {rows : List (List Int)} {ts : List (Nat × Int)} {fs ps : List Nat} {past later : List D} : fldD "Chain" "sums" (chD w rows ts fs ps past later) = some (.lst ((List.range w).map fun m => .lst ((sumsF rows m).map .int))) := rfl
theorem ch_wide {w : Nat} {rows : List (List Int)} {ts : List (Nat × Int)} {fs ps : List Nat} {past later : List D} : fldD "Chain" "wide" (chD w rows ts fs ps past later) = some (.int w) := rfl
/-- one step backwards -/
local macro_rules | `(tactic| walk_at "e1") => `(tactic| first
  | with_reducible refine S_next ?_ | with_reducible refine S_ret ?_ | with_reducible refine S_drop ?_ | with_reducible refine S_if ?_ | with_reducible refine S_for ?_
  | with_reducible refine Ev_C ?_ | with_reducible refine Ev_fz ?_ | with_reducible refine Ev_pur ?_ | with_reducible refine Ev_op2 ?_ | with_reducible refine Ev_top2 ?_ | with_reducible refine Ev_op1 ?_ | with_reducible refine Ev_val ?_
  | with_reducible refine Ev_tand ?_ | with_reducible refine Ev_tor ?_ | with_reducible refine Ev_tnot ?_ | with_reducible refine Ev_and ?_ | with_reducible refine Ev_or ?_ | with_reducible refine Ev_not ?_ | with_reducible refine Ev_if ?_
  | with_reducible refine Ev_anil ?_ | with_reducible refine Ev_acons ?_ | with_reducible refine Ev_eanil ?_ | with_reducible refine Ev_eacons ?_ | with_reducible refine Ev_call ?_ | with_reducible refine Ev_onone ?_ | with_reducible refine Ev_osome ?_
  | with_reducible refine Ev_sl ?_ | with_reducible refine Ev_esl ?_ | with_reducible refine Ev_eop2 ?_ | with_reducible refine Ev_eargs ?_ | with_reducible refine Ev_iseq ?_ | with_reducible refine Ev_iargs ?_ | with_reducible refine Ev_yes ?_
  | with_reducible refine Ev_chain ?_ | with_reducible refine Ev_tchain ?_
  | (with_reducible refine Ev_tbor ?_; simp only [frzE, Option.map_some, Option.map_none, O.fz, fzs, fzs_ints, fzs_purs])
  | (with_reducible refine Ev_bor ?_; simp only [frzE, Option.map_some, Option.map_none, O.fz, fzs, fzs_ints, fzs_purs])
  | ((with_reducible show (if (!true) = true then _ else _)); rw [if_neg (by decide)]) | ((with_reducible show (if (!false) = true then _ else _)); rw [if_pos (by decide)])
  | with_reducible refine Ev_call1 ?_ | ((with_reducible show (if true = true then _ else _)); rw [if_pos rfl]) | ((with_reducible show (if false = true then _ else _)); rw [if_neg Bool.false_ne_true])
  | ((with_reducible show Ev (dVar _) _ _); refine Ev_var rfl ?_)
  | ((with_reducible show Ev (eMove _) _ _); refine Ev_move rfl ?_; (try simp only [List.set_cons_zero, List.set_cons_succ]))
  | ((with_reducible refine S_set ?_))
  | (with_reducible refine S_asg ?_)
  | ((with_reducible refine Ev_tup ?_)) | ((with_reducible refine Ev_lst ?_)) | ((with_reducible refine Ev_elst ?_)) | ((with_reducible refine Ev_etup ?_))
  | ((with_reducible show ∃ _, powD _ _ = some _ ∧ _); refine ⟨_, pow18, ?_⟩) | ((with_reducible show ∃ _, powD _ _ = some _ ∧ _); refine ⟨_, rfl, ?_⟩; simp only [Int.reduceToNat, Int.reducePow]) | ((with_reducible show ∃ _, addD _ _ = some _ ∧ _); refine ⟨_, add_ii _ _, ?_⟩) | ((with_reducible show ∃ _, eqD _ _ = some _ ∧ _); refine ⟨_, eq_dec _ _, ?_⟩) | ((with_reducible show ∃ _, neD _ _ = some _ ∧ _); refine ⟨_, ne_dec _ _, ?_⟩) | ((with_reducible show ∃ _, ltD _ _ = some _ ∧ _); refine ⟨_, lt_dec _ _, ?_⟩) | ((with_reducible show ∃ _, leD _ _ = some _ ∧ _); refine ⟨_, le_dec _ _, ?_⟩) | ((with_reducible show ∃ _, gtD _ _ = some _ ∧ _); refine ⟨_, gt_dec _ _, ?_⟩) | ((with_reducible show ∃ _, geD _ _ = some _ ∧ _); refine ⟨_, ge_dec _ _, ?_⟩) | ((with_reducible show ∃ _, subD _ _ = some _ ∧ _); refine ⟨_, sub_ii _ _, ?_⟩) | ((with_reducible show ∃ _, negD _ = some _ ∧ _); refine ⟨_, neg_i _, ?_⟩)
  | ((with_reducible show ∃ _, mulD _ _ = some _ ∧ _); refine ⟨_, mul_ii (by omega), ?_⟩) | ((with_reducible show ∃ _, modD _ _ = some _ ∧ _); refine ⟨_, mod_ii (by omega), ?_⟩) | ((with_reducible show ∃ _, divD _ _ = some _ ∧ _); refine ⟨_, div_ii (by omega) (by omega), ?_⟩)
  | ((with_reducible show ∃ _, mixE _ _ _ = some _ ∧ _); refine ⟨_, mix_nil rfl, ?_⟩)
  | ((with_reducible show _ < List.length _ ∧ _); refine ⟨of_decide_eq_true rfl, ?_⟩; (try simp only [List.set_cons_zero, List.set_cons_succ, O.fz, fzs_ints, fzs_purs, keepE_cons, keepE_nil, wipeE]))
  | ((with_reducible show (_ < List.length _ ∧ _) ∧ _); refine ⟨of_decide_eq_true rfl, ?_⟩; (try simp only [List.set_cons_zero, List.set_cons_succ, O.fz, fzs_ints, fzs_purs, keepE_cons, keepE_nil, wipeE]))
  | ((with_reducible show List.length _ ≤ 1000 ∧ _); refine ⟨of_decide_eq_true rfl, ?_⟩; (try simp only [List.set_cons_zero, List.set_cons_succ, O.fz, fzs_ints, fzs_purs, keepE_cons, keepE_nil, wipeE]))
  | ((with_reducible show flatO _ = true ∧ _); refine ⟨rfl, ?_⟩)
  | ((with_reducible show Ev (eaLate _ _) _ _); refine Ev_late rfl ?_)
  | with_reducible refine S_setIx ?_
  | ((with_reducible show EvS (sAugIx _ _ _ _) _ _ _ _ _); refine S_augIx rfl ?_)
  | ((with_reducible show EvS (sAug _ _ _) _ _ _ _ _); refine S_aug rfl ?_)
  | ((with_reducible show ∃ a b c, _ = D.int a ∧ _ ∧ _ ∧ _); refine ⟨_, _, _, rfl, rfl, rfl, ?_⟩; simp only [List.set_cons_zero, List.set_cons_succ, Int.toNat_ofNat, Int.reduceToNat])
  | ((with_reducible show ∃ a b c, _ = D.int a ∧ _ ∧ _ ∧ _); refine ⟨_, _, _, rfl, rfl, rfl, ?_⟩)
  | ((with_reducible show ∃ _, ixD _ _ = some _ ∧ _); refine ⟨_, rfl, ?_⟩)
  | ((with_reducible show ∃ _, lenD _ = some _ ∧ _); refine ⟨_, rfl, ?_⟩)
  | ((with_reducible show ∃ _, absD _ = some _ ∧ _); refine ⟨_, rfl, ?_⟩)
  | ((with_reducible show ∃ _, itemsD _ = some _ ∧ _); refine ⟨_, rfl, ?_⟩)
  | ((with_reducible show ∃ _, tupleD _ = some _ ∧ _); refine ⟨_, rfl, ?_⟩)
  | ((with_reducible show ∃ _, listD _ = some _ ∧ _); refine ⟨_, rfl, ?_⟩)
  | ((with_reducible show ∃ _, listL _ = some _ ∧ _); refine ⟨_, rfl, ?_⟩)
  | ((with_reducible show ∃ _, toIntD _ = some _ ∧ _); refine ⟨_, rfl, ?_⟩)
  | ((with_reducible show ∃ _, isD _ _ = some _ ∧ _); refine ⟨_, rfl, ?_⟩)
  | ((with_reducible show ∃ _, isNotD _ _ = some _ ∧ _); refine ⟨_, rfl, ?_⟩)
  | ((with_reducible show ∃ _, takeS _ _ = some _ ∧ _); refine ⟨_, rfl, ?_⟩)
  | ((with_reducible show ∃ _, fName _ _ _ = some _ ∧ _); refine ⟨_, rfl, ?_⟩; (try simp only [List.set_cons_zero, List.set_cons_succ]))
  | ((with_reducible show ∃ _, fTup _ _ _ _ = some _ ∧ _); refine ⟨_, rfl, ?_⟩; (try simp only [List.set_cons_zero, List.set_cons_succ]))
  | ((with_reducible show ∃ _, slD _ _ _ = some _ ∧ _); refine ⟨_, rfl, ?_⟩)
  | ((with_reducible show ∃ _, slL _ _ _ = some _ ∧ _); refine ⟨_, rfl, ?_⟩)
  | ((with_reducible show ∃ _, List.set _ _ _ = some _ ∧ _); refine ⟨_, rfl, ?_⟩)
  | ((with_reducible show ∃ _, getElem? _ _ = some _ ∧ _); refine ⟨_, rfl, ?_⟩)
  | ((with_reducible show ∃ _, rangeD1 [D.int (Nat.cast _)] = some _ ∧ _); refine ⟨_, range_nat (by omega), ?_⟩) | ((with_reducible show ∃ _, rangeD1 _ = some _ ∧ _); refine ⟨_, range_lit (by omega) (by omega), ?_⟩)
  | ((with_reducible show ∃ _, _ = D.int _ ∧ _); refine ⟨_, rfl, ?_⟩)
  | ((with_reducible show ∃ _, maxD [D.int _, D.int _] = some _ ∧ _); refine ⟨_, rfl, ?_⟩) | ((with_reducible show ∃ _, minD [D.int _, D.int _] = some _ ∧ _); refine ⟨_, rfl, ?_⟩)
  | ((with_reducible show ∃ _, truD _ = some _ ∧ _); refine ⟨_, rfl, ?_⟩)
  | ((with_reducible show ∃ _, _ = D.bl _ ∧ _); refine ⟨_, rfl, ?_⟩)
  | ((with_reducible show ∃ _, neD (.str _) (.str _) = some _ ∧ _); refine ⟨_, ne_str _, ?_⟩) | ((with_reducible show ∃ _, eqD (.str _) (.str _) = some _ ∧ _); refine ⟨_, eq_str _, ?_⟩))
local macro_rules | `(tactic| walk_at "e") => `(tactic| repeat walk_at "e1")
local macro_rules | `(tactic| walk_at "s") => `(tactic| repeat (first | with_reducible refine S_seq ?_ | walk_at "e1"))
local macro_rules | `(tactic| walk_at "n") => `(tactic| try simp only [List.set_cons_zero, List.set_cons_succ, O.fz, fzs_ints, fzs_purs, keepE_cons, keepE_nil, wipeE])
local macro_rules | `(tactic| walk_at "e1") => `(tactic| ((with_reducible show Ev (eCall f_law_take _ _) _ _); refine Ev_take rfl (by assumption) ?_; (try simp only [List.set_cons_zero, List.set_cons_succ])))
local macro_rules | `(tactic| walk_at "e1") => `(tactic| ((with_reducible show ∀ _ _, _ → _ → BagOk _ → _); intro r o' h1 h2 hb; (try simp only [List.set_cons_zero, List.set_cons_succ, O.fz])))
local macro_rules | `(tactic| walk_at "e1") => `(tactic| ((with_reducible show _ < _ ∧ _); refine ⟨by omega, ?_⟩))
local macro_rules | `(tactic| walk_at "e1") => `(tactic| ((with_reducible show Ev (eCall f_law_size _ _) _ _); refine Ev_size rfl (by assumption) ?_; (try simp only [List.set_cons_zero, List.set_cons_succ])))
local macro_rules | `(tactic| walk_at "e1") => `(tactic| ((with_reducible show ∃ _, lenD [D.lst (rowsD _)] = some _ ∧ _); refine ⟨_, rfl, ?_⟩; rw [rowsD_len]))
local macro_rules | `(tactic| walk_at "e1") => `(tactic| ((with_reducible show ∃ _, isaD _ = some _ ∧ _); refine ⟨_, rfl, ?_⟩))
local macro_rules | `(tactic| walk_at "e1") => `(tactic| ((with_reducible show ∃ _, rangeD1 [D.int (_ + 1)] = some _ ∧ _); refine ⟨_, range_succ' (by omega), ?_⟩))
local macro_rules | `(tactic| walk_at "e1") => `(tactic| ((with_reducible show ∃ _, rangeD1 [D.int (1 + _)] = some _ ∧ _); refine ⟨_, range_one_add (by omega) (by omega), ?_⟩))
local macro_rules | `(tactic| walk_at "e1") => `(tactic| ((with_reducible show EvS (sFrz _ _) _ _ _ _ _); refine S_frz rfl ?_; (try simp only [List.set_cons_zero, List.set_cons_succ, O.fz, fzs, fzs_ints, fzs_purs])))
local macro_rules | `(tactic| walk_at "e1") => `(tactic| first | with_reducible refine S_par2 ?_ | with_reducible refine S_par3 ?_)
local macro_rules | `(tactic| walk_at "e1") => `(tactic| ((with_reducible show ∃ o1 o2 : O, _ = [o1, o2] ∧ _); refine ⟨_, _, rfl, ?_⟩))
local macro_rules | `(tactic| walk_at "e1") => `(tactic| ((with_reducible show ∃ o1 o2 o3 : O, _ = [o1, o2, o3] ∧ _); refine ⟨_, _, _, rfl, ?_⟩))
local macro_rules | `(tactic| walk_at "e1") => `(tactic| ((with_reducible show (_ < List.length _ ∧ _ < List.length _ ∧ _ < List.length _) ∧ _); refine ⟨of_decide_eq_true rfl, ?_⟩; (try simp only [List.set_cons_zero, List.set_cons_succ, O.fz, fzs_ints, fzs_purs, keepE_cons, keepE_nil, wipeE])))
local macro_rules | `(tactic| walk_at "e1") => `(tactic| first
  | ((with_reducible show Ev (eMCallD _ _ _ _ _) _ _); refine Ev_mcallD (fun _ _ _ h => runB_nil h) ?_)
  | ((with_reducible show Ev (eMCallK _ _ _ _ _ _) _ _); refine Ev_mcallK (fun _ _ _ h => runB_nil h) ?_)
  | ((with_reducible show Ev (eCallK _ _ _) _ _); refine Ev_callK (fun _ _ _ h => runB_nil h) ?_)
  | with_reducible refine Ev_make ?_
  | ((with_reducible show ∃ _, fldD "Endless" "wide" (endD _ _) = some _ ∧ _); refine ⟨_, end_wide, ?_⟩)
  | ((with_reducible show ∃ _, fldD "Endless" "rows" (endD _ _) = some _ ∧ _); refine ⟨_, end_rows, ?_⟩)
  | ((with_reducible show ∃ _, fldD "Endless" "sums" (endD _ _) = some _ ∧ _); refine ⟨_, end_sums, ?_⟩)
  | ((with_reducible show isIns _ _ (endD _ _) = true ∧ _); refine ⟨rfl, ?_⟩)
  | ((with_reducible show ∃ _, divmodD [D.int _, D.int _] = some _ ∧ _); refine ⟨_, divmod_ii (by omega) (by omega), ?_⟩)
  | ((with_reducible show ∃ _, lenD [mapL _ _] = some _ ∧ _); refine ⟨_, mapL_len, ?_⟩)
  | ((with_reducible show ∃ _, itemsD (mapL _ _) = some _ ∧ _); refine ⟨_, mapL_items, ?_⟩)
  | ((with_reducible show (if isNon (D.int _) = true then _ else _)); rw [if_neg (show ¬ (isNon (D.int _) = true) from Bool.false_ne_true)])
  | ((with_reducible show (if isNon D.non = true then _ else _)); rw [if_pos (show isNon D.non = true from rfl)])
  | ((with_reducible show (if (!isNon (D.int _)) = true then _ else _)); rw [if_pos (show (!isNon (D.int _)) = true from rfl)])
  | ((with_reducible show (if (!isNon D.non) = true then _ else _)); rw [if_neg (show ¬ ((!isNon D.non) = true) from Bool.false_ne_true)])
  | ((with_reducible show (if isNon (mapL _ _) = true then _ else _)); rw [if_neg (show ¬ (isNon (mapL _ _) = true) from Bool.false_ne_true)])
  | ((with_reducible show (if isNon (jD none) = true then _ else _)); rw [if_pos (show isNon (jD none) = true from rfl)])
  | ((with_reducible show (if isNon (jD (some _)) = true then _ else _)); rw [if_neg (show ¬ (isNon (jD (some _)) = true) from Bool.false_ne_true)])
  | ((with_reducible show (if (!isNon (jD none)) = true then _ else _)); rw [if_neg (show ¬ ((!isNon (jD none)) = true) from Bool.false_ne_true)])
  | ((with_reducible show (if (!isNon (jD (some _))) = true then _ else _)); rw [if_pos (show (!isNon (jD (some _))) = true from rfl)])
  | with_reducible refine Ev_methT ?_)
local macro_rules | `(tactic| walk_at "e1") => `(tactic| first
  | ((with_reducible show EvS (sTupO _ _) _ _ _ _ _); refine S_tupO ?_)
  | ((with_reducible show Ev eDNew _ _); refine Ev_dnew ?_)
  | ((with_reducible show Ev (eMCallI _ _ _ _ false _ _) _ _); refine Ev_mcallI rfl (Ev_recvN ?_))
  | ((with_reducible show Ev (eMCallI _ _ _ _ true _ _) _ _); refine Ev_mcallI rfl (Ev_recvL ?_))
  | ((with_reducible show ∃ os : List O, O.tup _ = O.tup os ∧ _ ∧ _ ∧ _); refine ⟨_, rfl, rfl, of_decide_eq_true rfl, ?_⟩; simp only [setAll, List.set_cons_zero, List.set_cons_succ])
  | ((with_reducible show isIns _ _ (chD _ _ _ _ _ _ _) = true ∧ _); refine ⟨rfl, ?_⟩))
local macro_rules | `(tactic| walk_at "e1") => `(tactic| first
  | ((with_reducible show ∃ _, fldD "Chain" "firsts" (chD _ _ _ _ _ _ _) = some _ ∧ _); refine ⟨_, ch_firsts, ?_⟩)
  | ((with_reducible show ∃ _, fldD "Chain" "entries" (chD _ _ _ _ _ _ _) = some _ ∧ _); refine ⟨_, ch_entries, ?_⟩)
  | ((with_reducible show ∃ _, fldD "Chain" "rows" (chD _ _ _ _ _ _ _) = some _ ∧ _); refine ⟨_, ch_rows, ?_⟩)
  | ((with_reducible show ∃ _, fldD "Chain" "sums" (chD _ _ _ _ _ _ _) = some _ ∧ _); refine ⟨_, ch_sums, ?_⟩)
  | ((with_reducible show ∃ _, fldD "Chain" "wide" (chD _ _ _ _ _ _ _) = some _ ∧ _); refine ⟨_, ch_wide, ?_⟩))
end DL.Sh
set_option Elab.async false
set_option linter.all false
set_option maxRecDepth 100000
set_option maxHeartbeats 4000000
/-! Rows of departures. -/
namespace DL.Sh
open PySem PySem.Spec PyProof.Rows L2
/-- one step backwards -/
local macro_rules | `(tactic| walk_at "e1") => `(tactic| first
  | with_reducible refine S_next ?_ | with_reducible refine S_ret ?_ | with_reducible refine S_drop ?_ | with_reducible refine S_if ?_ | with_reducible refine S_for ?_
  | with_reducible refine Ev_C ?_ | with_reducible refine Ev_fz ?_ | with_reducible refine Ev_pur ?_ | with_reducible refine Ev_op2 ?_ | with_reducible refine Ev_top2 ?_ | with_reducible refine Ev_op1 ?_ | with_reducible refine Ev_val ?_
  | with_reducible refine Ev_tand ?_ | with_reducible refine Ev_tor ?_ | with_reducible refine Ev_tnot ?_ | with_reducible refine Ev_and ?_ | with_reducible refine Ev_or ?_ | with_reducible refine Ev_not ?_ | with_reducible refine Ev_if ?_
  | with_reducible refine Ev_anil ?_ | with_reducible refine Ev_acons ?_ | with_reducible refine Ev_eanil ?_ | with_reducible refine Ev_eacons ?_ | with_reducible refine Ev_call ?_ | with_reducible refine Ev_onone ?_ | with_reducible refine Ev_osome ?_
  | with_reducible refine Ev_sl ?_ | with_reducible refine Ev_esl ?_ | with_reducible refine Ev_eop2 ?_ | with_reducible refine Ev_eargs ?_ | with_reducible refine Ev_iseq ?_ | with_reducible refine Ev_iargs ?_ | with_reducible refine Ev_yes ?_
  | with_reducible refine Ev_chain ?_ | with_reducible refine Ev_tchain ?_
  | (with_reducible refine Ev_tbor ?_; simp only [frzE, Option.map_some, Option.map_none, O.fz, fzs, fzs_ints, fzs_purs])
  | (with_reducible refine Ev_bor ?_; simp only [frzE, Option.map_some, Option.map_none, O.fz, fzs, fzs_ints, fzs_purs])
  | ((with_reducible show (if (!true) = true then _ else _)); rw [if_neg (by decide)]) | ((with_reducible show (if (!false) = true then _ else _)); rw [if_pos (by decide)])
  | with_reducible refine Ev_call1 ?_ | ((with_reducible show (if true = true then _ else _)); rw [if_pos rfl]) | ((with_reducible show (if false = true then _ else _)); rw [if_neg Bool.false_ne_true])
  | ((with_reducible show Ev (dVar _) _ _); refine Ev_var rfl ?_)
  | ((with_reducible show Ev (eMove _) _ _); refine Ev_move rfl ?_; (try simp only [List.set_cons_zero, List.set_cons_succ]))
  | ((with_reducible refine S_set ?_))
  | (with_reducible refine S_asg ?_)
  | ((with_reducible refine Ev_tup ?_)) | ((with_reducible refine Ev_lst ?_)) | ((with_reducible refine Ev_elst ?_)) | ((with_reducible refine Ev_etup ?_))
  | ((with_reducible show ∃ _, powD _ _ = some _ ∧ _); refine ⟨_, pow18, ?_⟩) | ((with_reducible show ∃ _, powD _ _ = some _ ∧ _); refine ⟨_, rfl, ?_⟩; simp only [Int.reduceToNat, Int.reducePow]) | ((with_reducible show ∃ _, addD _ _ = some _ ∧ _); refine ⟨_, add_ii _ _, ?_⟩) | ((with_reducible show ∃ _, eqD _ _ = some _ ∧ _); refine ⟨_, eq_dec _ _, ?_⟩) | ((with_reducible show ∃ _, neD _ _ = some _ ∧ _); refine ⟨_, ne_dec _ _, ?_⟩) | ((with_reducible show ∃ _, ltD _ _ = some _ ∧ _); refine ⟨_, lt_dec _ _, ?_⟩) | ((with_reducible show ∃ _, leD _ _ = some _ ∧ _); refine ⟨_, le_dec _ _, ?_⟩) | ((with_reducible show ∃ _, gtD _ _ = some _ ∧ _); refine ⟨_, gt_dec _ _, ?_⟩) | ((with_reducible show ∃ _, geD _ _ = some _ ∧ _); refine ⟨_, ge_dec _ _, ?_⟩) | ((with_reducible show ∃ _, subD _ _ = some _ ∧ _); refine ⟨_, sub_ii _ _, ?_⟩) | ((with_reducible show ∃ _, negD _ = some _ ∧ _); refine ⟨_, neg_i _, ?_⟩)
  | ((with_reducible show ∃ _, mulD _ _ = some _ ∧ _); refine ⟨_, mul_ii (by omega), ?_⟩) | ((with_reducible show ∃ _, modD _ _ = some _ ∧ _); refine ⟨_, mod_ii (by omega), ?_⟩) | ((with_reducible show ∃ _, divD _ _ = some _ ∧ _); refine ⟨_, div_ii (by omega) (by omega), ?_⟩)
  | ((with_reducible show ∃ _, mixE _ _ _ = some _ ∧ _); refine ⟨_, mix_nil rfl, ?_⟩)
  | ((with_reducible show _ < List.length _ ∧ _); refine ⟨of_decide_eq_true rfl, ?_⟩; (try simp only [List.set_cons_zero, List.set_cons_succ, O.fz, fzs_ints, fzs_purs, keepE_cons, keepE_nil, wipeE]))
  | ((with_reducible show (_ < List.length _ ∧ _) ∧ _); refine ⟨of_decide_eq_true rfl, ?_⟩; (try simp only [List.set_cons_zero, List.set_cons_succ, O.fz, fzs_ints, fzs_purs, keepE_cons, keepE_nil, wipeE]))
  | ((with_reducible show List.length _ ≤ 1000 ∧ _); refine ⟨of_decide_eq_true rfl, ?_⟩; (try simp only [List.set_cons_zero, List.set_cons_succ, O.fz, fzs_ints, fzs_purs, keepE_cons, keepE_nil, wipeE]))
  | ((with_reducible show flatO _ = true ∧ _); refine ⟨rfl, ?_⟩)
  | ((with_reducible show Ev (eaLate _ _) _ _); refine Ev_late rfl ?_)
  | with_reducible refine S_setIx ?_
  | ((with_reducible show EvS (sAugIx _ _ _ _) _ _ _ _ _); refine S_augIx rfl ?_)
  | ((with_reducible show EvS (sAug _ _ _) _ _ _ _ _); refine S_aug rfl ?_)
  | ((with_reducible show ∃ a b c, _ = D.int a ∧ _ ∧ _ ∧ _); refine ⟨_, _, _, rfl, rfl, rfl, ?_⟩; simp only [List.set_cons_zero, List.set_cons_succ, Int.toNat_ofNat, Int.reduceToNat])
  | ((with_reducible show ∃ a b c, _ = D.int a ∧ _ ∧ _ ∧ _); refine ⟨_, _, _, rfl, rfl, rfl, ?_⟩)
  | ((with_reducible show ∃ _, ixD _ _ = some _ ∧ _); refine ⟨_, rfl, ?_⟩)
  | ((with_reducible show ∃ _, lenD _ = some _ ∧ _); refine ⟨_, rfl, ?_⟩)
  | ((with_reducible show ∃ _, absD _ = some _ ∧ _); refine ⟨_, rfl, ?_⟩)
  | ((with_reducible show ∃ _, itemsD _ = some _ ∧ _); refine ⟨_, rfl, ?_⟩)
  | ((with_reducible show ∃ _, tupleD _ = some _ ∧ _); refine ⟨_, rfl, ?_⟩)
  | ((with_reducible show ∃ _, listD _ = some _ ∧ _); refine ⟨_, rfl, ?_⟩)
  | ((with_reducible show ∃ _, listL _ = some _ ∧ _); refine ⟨_, rfl, ?_⟩)
  | ((with_reducible show ∃ _, toIntD _ = some _ ∧ _); refine ⟨_, rfl, ?_⟩)
  | ((with_reducible show ∃ _, isD _ _ = some _ ∧ _); refine ⟨_, rfl, ?_⟩)
  | ((with_reducible show ∃ _, isNotD _ _ = some _ ∧ _); refine ⟨_, rfl, ?_⟩)
  | ((with_reducible show ∃ _, takeS _ _ = some _ ∧ _); refine ⟨_, rfl, ?_⟩)
  | ((with_reducible show ∃ _, fName _ _ _ = some _ ∧ _); refine ⟨_, rfl, ?_⟩; (try simp only [List.set_cons_zero, List.set_cons_succ]))
  | ((with_reducible show ∃ _, fTup _ _ _ _ = some _ ∧ _); refine ⟨_, rfl, ?_⟩; (try simp only [List.set_cons_zero, List.set_cons_succ]))
  | ((with_reducible show ∃ _, slD _ _ _ = some _ ∧ _); refine ⟨_, rfl, ?_⟩)
  | ((with_reducible show ∃ _, slL _ _ _ = some _ ∧ _); refine ⟨_, rfl, ?_⟩)
  | ((with_reducible show ∃ _, List.set _ _ _ = some _ ∧ _); refine ⟨_, rfl, ?_⟩)
  | ((with_reducible show ∃ _, getElem? _ _ = some _ ∧ _); refine ⟨_, rfl, ?_⟩)
  | ((with_reducible show ∃ _, rangeD1 [D.int (Nat.cast _)] = some _ ∧ _); refine ⟨_, range_nat (by omega), ?_⟩) | ((with_reducible show ∃ _, rangeD1 _ = some _ ∧ _); refine ⟨_, range_lit (by omega) (by omega), ?_⟩)
  | ((with_reducible show ∃ _, _ = D.int _ ∧ _); refine ⟨_, rfl, ?_⟩)
  | ((with_reducible show ∃ _, maxD [D.int _, D.int _] = some _ ∧ _); refine ⟨_, rfl, ?_⟩) | ((with_reducible show ∃ _, minD [D.int _, D.int _] = some _ ∧ _); refine ⟨_, rfl, ?_⟩)
  | ((with_reducible show ∃ _, truD _ = some _ ∧ _); refine ⟨_, rfl, ?_⟩)
  | ((with_reducible show ∃ _, _ = D.bl _ ∧ _); refine ⟨_, rfl, ?_⟩)
  | ((with_reducible show ∃ _, neD (.str _) (.str _) = some _ ∧ _); refine ⟨_, ne_str _, ?_⟩) | ((with_reducible show ∃ _, eqD (.str _) (.str _) = some _ ∧ _); refine ⟨_, eq_str _, ?_⟩))
local macro_rules | `(tactic| walk_at "e") => `(tactic| repeat walk_at "e1")
local macro_rules | `(tactic| walk_at "s") => `(tactic| repeat (first | with_reducible refine S_seq ?_ | walk_at "e1"))
local macro_rules | `(tactic| walk_at "n") => `(tactic| try simp only [List.set_cons_zero, List.set_cons_succ, O.fz, fzs_ints, fzs_purs, keepE_cons, keepE_nil, wipeE])
local macro_rules | `(tactic| walk_at "e1") => `(tactic| ((with_reducible show Ev (eCall f_law_take _ _) _ _); refine Ev_take rfl (by assumption) ?_; (try simp only [List.set_cons_zero, List.set_cons_succ])))
local macro_rules | `(tactic| walk_at "e1") => `(tactic| ((with_reducible show ∀ _ _, _ → _ → BagOk _ → _); intro r o' h1 h2 hb; (try simp only [List.set_cons_zero, List.set_cons_succ, O.fz])))
local macro_rules | `(tactic| walk_at "e1") => `(tactic| ((with_reducible show _ < _ ∧ _); refine ⟨by omega, ?_⟩))
local macro_rules | `(tactic| walk_at "e1") => `(tactic| ((with_reducible show Ev (eCall f_law_size _ _) _ _); refine Ev_size rfl (by assumption) ?_; (try simp only [List.set_cons_zero, List.set_cons_succ])))
local macro_rules | `(tactic| walk_at "e1") => `(tactic| ((with_reducible show ∃ _, lenD [D.lst (rowsD _)] = some _ ∧ _); refine ⟨_, rfl, ?_⟩; rw [rowsD_len]))
local macro_rules | `(tactic| walk_at "e1") => `(tactic| ((with_reducible show ∃ _, isaD _ = some _ ∧ _); refine ⟨_, rfl, ?_⟩))
local macro_rules | `(tactic| walk_at "e1") => `(tactic| ((with_reducible show ∃ _, rangeD1 [D.int (_ + 1)] = some _ ∧ _); refine ⟨_, range_succ' (by omega), ?_⟩))
local macro_rules | `(tactic| walk_at "e1") => `(tactic| ((with_reducible show ∃ _, rangeD1 [D.int (1 + _)] = some _ ∧ _); refine ⟨_, range_one_add (by omega) (by omega), ?_⟩))
local macro_rules | `(tactic| walk_at "e1") => `(tactic| ((with_reducible show EvS (sFrz _ _) _ _ _ _ _); refine S_frz rfl ?_; (try simp only [List.set_cons_zero, List.set_cons_succ, O.fz, fzs, fzs_ints, fzs_purs])))
local macro_rules | `(tactic| walk_at "e1") => `(tactic| first | with_reducible refine S_par2 ?_ | with_reducible refine S_par3 ?_)
local macro_rules | `(tactic| walk_at "e1") => `(tactic| ((with_reducible show ∃ o1 o2 : O, _ = [o1, o2] ∧ _); refine ⟨_, _, rfl, ?_⟩))
local macro_rules | `(tactic| walk_at "e1") => `(tactic| ((with_reducible show ∃ o1 o2 o3 : O, _ = [o1, o2, o3] ∧ _); refine ⟨_, _, _, rfl, ?_⟩))
local macro_rules | `(tactic| walk_at "e1") => `(tactic| ((with_reducible show (_ < List.length _ ∧ _ < List.length _ ∧ _ < List.length _) ∧ _); refine ⟨of_decide_eq_true rfl, ?_⟩; (try simp only [List.set_cons_zero, List.set_cons_succ, O.fz, fzs_ints, fzs_purs, keepE_cons, keepE_nil, wipeE])))
local macro_rules | `(tactic| walk_at "e1") => `(tactic| first
  | ((with_reducible show Ev (eMCallD _ _ _ _ _) _ _); refine Ev_mcallD (fun _ _ _ h => runB_nil h) ?_)
  | ((with_reducible show Ev (eMCallK _ _ _ _ _ _) _ _); refine Ev_mcallK (fun _ _ _ h => runB_nil h) ?_)
  | ((with_reducible show Ev (eCallK _ _ _) _ _); refine Ev_callK (fun _ _ _ h => runB_nil h) ?_)
  | with_reducible refine Ev_make ?_
  | ((with_reducible show ∃ _, fldD "Endless" "wide" (endD _ _) = some _ ∧ _); refine ⟨_, end_wide, ?_⟩)
  | ((with_reducible show ∃ _, fldD "Endless" "rows" (endD _ _) = some _ ∧ _); refine ⟨_, end_rows, ?_⟩)
  | ((with_reducible show ∃ _, fldD "Endless" "sums" (endD _ _) = some _ ∧ _); refine ⟨_, end_sums, ?_⟩)
  | ((with_reducible show isIns _ _ (endD _ _) = true ∧ _); refine ⟨rfl, ?_⟩)
  | ((with_reducible show ∃ _, divmodD [D.int _, D.int _] = some _ ∧ _); refine ⟨_, divmod_ii (by omega) (by omega), ?_⟩)
  | ((with_reducible show ∃ _, lenD [mapL _ _] = some _ ∧ _); refine ⟨_, mapL_len, ?_⟩)
  | ((with_reducible show ∃ _, itemsD (mapL _ _) = some _ ∧ _); refine ⟨_, mapL_items, ?_⟩)
  | ((with_reducible show (if isNon (D.int _) = true then _ else _)); rw [if_neg (show ¬ (isNon (D.int _) = true) from Bool.false_ne_true)])
  | ((with_reducible show (if isNon D.non = true then _ else _)); rw [if_pos (show isNon D.non = true from rfl)])
  | ((with_reducible show (if (!isNon (D.int _)) = true then _ else _)); rw [if_pos (show (!isNon (D.int _)) = true from rfl)])
  | ((with_reducible show (if (!isNon D.non) = true then _ else _)); rw [if_neg (show ¬ ((!isNon D.non) = true) from Bool.false_ne_true)])
  | ((with_reducible show (if isNon (mapL _ _) = true then _ else _)); rw [if_neg (show ¬ (isNon (mapL _ _) = true) from Bool.false_ne_true)])
  | ((with_reducible show (if isNon (jD none) = true then _ else _)); rw [if_pos (show isNon (jD none) = true from rfl)])
  | ((with_reducible show (if isNon (jD (some _)) = true then _ else _)); rw [if_neg (show ¬ (isNon (jD (some _)) = true) from Bool.false_ne_true)])
  | ((with_reducible show (if (!isNon (jD none)) = true then _ else _)); rw [if_neg (show ¬ ((!isNon (jD none)) = true) from Bool.false_ne_true)])
  | ((with_reducible show (if (!isNon (jD (some _))) = true then _ else _)); rw [if_pos (show (!isNon (jD (some _))) = true from rfl)])
  | with_reducible refine Ev_methT ?_)
local macro_rules | `(tactic| walk_at "e1") => `(tactic| first
  | ((with_reducible show EvS (sTupO _ _) _ _ _ _ _); refine S_tupO ?_)
  | ((with_reducible show Ev eDNew _ _); refine Ev_dnew ?_)
  | ((with_reducible show Ev (eMCallI _ _ _ _ false _ _) _ _); refine Ev_mcallI rfl (Ev_recvN ?_))
  | ((with_reducible show Ev (eMCallI _ _ _ _ true _ _) _ _); refine Ev_mcallI rfl (Ev_recvL ?_))
  | ((with_reducible show ∃ os : List O, O.tup _ = O.tup os ∧ _ ∧ _ ∧ _); refine ⟨_, rfl, rfl, of_decide_eq_true rfl, ?_⟩; simp only [setAll, List.set_cons_zero, List.set_cons_succ])
  | ((with_reducible show isIns _ _ (chD _ _ _ _ _ _ _) = true ∧ _); refine ⟨rfl, ?_⟩))
local macro_rules | `(tactic| walk_at "e1") => `(tactic| first
  | ((with_reducible show ∃ _, fldD "Chain" "firsts" (chD _ _ _ _ _ _ _) = some _ ∧ _); refine ⟨_, ch_firsts, ?_⟩)
  | ((with_reducible show ∃ _, fldD "Chain" "entries" (chD _ _ _ _ _ _ _) = some _ ∧ _); refine ⟨_, ch_entries, ?_⟩)
  | ((with_reducible show ∃ _, fldD "Chain" "rows" (chD _ _ _ _ _ _ _) = some _ ∧ _); refine ⟨_, ch_rows, ?_⟩)
  | ((with_reducible show ∃ _, fldD "Chain" "sums" (chD _ _ _ _ _ _ _) = some _ ∧ _); refine ⟨_, ch_sums, ?_⟩)
  | ((with_reducible show ∃ _, fldD "Chain" "wide" (chD _ _ _ _ _ _ _) = some _ ∧ _); refine ⟨_, ch_wide, ?_⟩))
end DL.Sh
set_option Elab.async false
set_option linter.all false
set_option maxRecDepth 100000
set_option maxHeartbeats 4000000
/-! The data layer: truths added to ints. -/
namespace DL
open PySem PySem.Spec PyProof.Rows L2
end DL
set_option Elab.async false
set_option linter.all false
set_option maxRecDepth 100000
set_option maxHeartbeats 4000000
/-! The data layer: the least of alike data. -/
namespace DL
open PySem PySem.Spec PyProof.Rows L2
end DL
set_option Elab.async false
set_option linter.all false
set_option maxRecDepth 100000
set_option maxHeartbeats 4000000
/-! list(zip(xs, ys)) of two sequences of any kind -/
namespace LiQ
open PySem PySem.W PySem.Calls PyProof.Rows PyProof.V PySem.Spec
/-- something that is walked item by item -/
structure Src where
  it : Addr
  base : Addr
  items : Array Value
  st : Heap → Nat → Prop
  keep : ∀ {h h' : Heap} {k : Nat}, st h k → (∀ o, h.get? it = some o → h'.get? it = some o) → (∀ o, h.get? base = some o → h'.get? base = some o) → st h' k
  there : ∀ {h : Heap} {k : Nat}, st h k → it < h.objs.size
  item : ∀ {prog : Program} {w : World} {A : Around} {E : Value → Shared → Prop} {s : Shared} {k : Nat} {x : Value} {Q : Value → Shared → Prop}, st s.heap k → items[k]? = some x →
    (∀ g, st g (k + 1) → Heap.SameBut it s.heap g → Q x { s with heap := g }) → wpAny (model prog w) A (Builtin.SmallTypes.nextOf (.ref it)) Q E s
  fin : ∀ {prog : Program} {w : World} {A : Around} {E : Value → Shared → Prop} {s : Shared} {k : Nat} {Q : Value → Shared → Prop}, A.handled = none → st s.heap k → items[k]? = none →
    (∀ g e, Heap.ExtBut it s.heap g → (∃ o, g.get? e = some o ∧ o.cls = .type "StopIteration") → E (.ref e) { s with heap := g }) → wpAny (model prog w) A (Builtin.SmallTypes.nextOf (.ref it)) Q E s
theorem Src.ext (S : Src) {h g : Heap} {k : Nat} {b : Addr} (st : S.st h k) (e : Heap.ExtBut b h g) (n1 : S.it ≠ b) (n2 : S.base ≠ b) : S.st g k := S.keep st (fun o q => e _ _ n1 q) fun o q => e _ _ n2 q
/-- the zip at work on a list that grows at S -/
def QSt (h : Heap) (zp pr ou : Addr) (U V : Src) (S : Addr) (k : Nat) : Prop :=
  IsPair h pr (.ref U.it) (.ref V.it) ∧ U.st h k ∧ V.st h k ∧
    ((IsZip h zp pr ou .none ∧ ∃ a b, IsPair h ou a b) ∨ ∃ T f oT, IsZipHeld h zp pr ou T f ∧ h.get? T = some oT ∧ T ≠ zp ∧ T ≠ U.it ∧ T ≠ V.it ∧ T ≠ S)
abbrev all7 (zp pr ou : Addr) (U V : Src) : List Addr := [zp, pr, ou, U.it, V.it, U.base, V.base]
theorem QSt.keep {h h' : Heap} {zp pr ou S : Addr} {U V : Src} {k : Nat} (q : QSt h zp pr ou U V S k) (hS : ∀ b ∈ all7 zp pr ou U V, b ≠ S) (hk : ∀ b o, b ≠ S → h.get? b = some o → h'.get? b = some o) : QSt h' zp pr ou U V S k := by
  obtain ⟨qp, gu, gv, qz⟩ := q
  simp only [List.mem_cons, List.not_mem_nil, or_false] at hS
  refine ⟨hk _ _ (hS pr (by simp)) qp, U.keep gu (fun o e => hk _ o (hS U.it (by simp)) e) fun o e => hk _ o (hS U.base (by simp)) e, V.keep gv (fun o e => hk _ o (hS V.it (by simp)) e) fun o e => hk _ o (hS V.base (by simp)) e, ?_⟩
  rcases qz with ⟨qz, a, b, qo⟩ | ⟨T, f, oT, qz, qT, r1, r2, r3, r4⟩
  · exact .inl ⟨hk _ _ (hS zp (by simp)) qz, a, b, hk _ _ (hS ou (by simp)) qo⟩
  · exact .inr ⟨T, f, oT, hk _ _ (hS zp (by simp)) qz, hk _ _ r4 qT, r1, r2, r3, r4⟩
end LiQ
namespace DL
open PySem PySem.Spec PyProof.Rows L2
end DL
set_option Elab.async false
set_option linter.all false
set_option maxRecDepth 100000
set_option maxHeartbeats 4000000
/-! Staircases of two limits. -/
namespace DL.W
open PySem PySem.Spec PyProof.Rows L2 DL.Sh
/-- one step backwards -/
local macro_rules | `(tactic| walk_at "e1") => `(tactic| first
  | with_reducible refine S_next ?_ | with_reducible refine S_ret ?_ | with_reducible refine S_drop ?_ | with_reducible refine S_if ?_ | with_reducible refine S_for ?_
  | with_reducible refine Ev_C ?_ | with_reducible refine Ev_fz ?_ | with_reducible refine Ev_pur ?_ | with_reducible refine Ev_op2 ?_ | with_reducible refine Ev_top2 ?_ | with_reducible refine Ev_op1 ?_ | with_reducible refine Ev_val ?_
  | with_reducible refine Ev_tand ?_ | with_reducible refine Ev_tor ?_ | with_reducible refine Ev_tnot ?_ | with_reducible refine Ev_and ?_ | with_reducible refine Ev_or ?_ | with_reducible refine Ev_not ?_ | with_reducible refine Ev_if ?_
  | with_reducible refine Ev_anil ?_ | with_reducible refine Ev_acons ?_ | with_reducible refine Ev_eanil ?_ | with_reducible refine Ev_eacons ?_ | with_reducible refine Ev_call ?_ | with_reducible refine Ev_onone ?_ | with_reducible refine Ev_osome ?_
  | with_reducible refine Ev_sl ?_ | with_reducible refine Ev_esl ?_ | with_reducible refine Ev_eop2 ?_ | with_reducible refine Ev_eargs ?_ | with_reducible refine Ev_iseq ?_ | with_reducible refine Ev_iargs ?_ | with_reducible refine Ev_yes ?_
  | with_reducible refine Ev_chain ?_ | with_reducible refine Ev_tchain ?_
  | (with_reducible refine Ev_tbor ?_; simp only [frzE, Option.map_some, Option.map_none, O.fz, fzs, fzs_ints, fzs_purs])
  | (with_reducible refine Ev_bor ?_; simp only [frzE, Option.map_some, Option.map_none, O.fz, fzs, fzs_ints, fzs_purs])
  | ((with_reducible show (if (!true) = true then _ else _)); rw [if_neg (by decide)]) | ((with_reducible show (if (!false) = true then _ else _)); rw [if_pos (by decide)])
  | with_reducible refine Ev_call1 ?_ | ((with_reducible show (if true = true then _ else _)); rw [if_pos rfl]) | ((with_reducible show (if false = true then _ else _)); rw [if_neg Bool.false_ne_true])
  | ((with_reducible show Ev (dVar _) _ _); refine Ev_var rfl ?_)
  | ((with_reducible show Ev (eMove _) _ _); refine Ev_move rfl ?_; (try simp only [List.set_cons_zero, List.set_cons_succ]))
  | ((with_reducible refine S_set ?_))
  | (with_reducible refine S_asg ?_)
  | ((with_reducible refine Ev_tup ?_)) | ((with_reducible refine Ev_lst ?_)) | ((with_reducible refine Ev_elst ?_)) | ((with_reducible refine Ev_etup ?_))
  | ((with_reducible show ∃ _, powD _ _ = some _ ∧ _); refine ⟨_, pow18, ?_⟩) | ((with_reducible show ∃ _, powD _ _ = some _ ∧ _); refine ⟨_, rfl, ?_⟩; simp only [Int.reduceToNat, Int.reducePow]) | ((with_reducible show ∃ _, addD _ _ = some _ ∧ _); refine ⟨_, add_ii _ _, ?_⟩) | ((with_reducible show ∃ _, eqD _ _ = some _ ∧ _); refine ⟨_, eq_dec _ _, ?_⟩) | ((with_reducible show ∃ _, neD _ _ = some _ ∧ _); refine ⟨_, ne_dec _ _, ?_⟩) | ((with_reducible show ∃ _, ltD _ _ = some _ ∧ _); refine ⟨_, lt_dec _ _, ?_⟩) | ((with_reducible show ∃ _, leD _ _ = some _ ∧ _); refine ⟨_, le_dec _ _, ?_⟩) | ((with_reducible show ∃ _, gtD _ _ = some _ ∧ _); refine ⟨_, gt_dec _ _, ?_⟩) | ((with_reducible show ∃ _, geD _ _ = some _ ∧ _); refine ⟨_, ge_dec _ _, ?_⟩) | ((with_reducible show ∃ _, subD _ _ = some _ ∧ _); refine ⟨_, sub_ii _ _, ?_⟩) | ((with_reducible show ∃ _, negD _ = some _ ∧ _); refine ⟨_, neg_i _, ?_⟩)
  | ((with_reducible show ∃ _, mulD _ _ = some _ ∧ _); refine ⟨_, mul_ii (by omega), ?_⟩) | ((with_reducible show ∃ _, modD _ _ = some _ ∧ _); refine ⟨_, mod_ii (by omega), ?_⟩) | ((with_reducible show ∃ _, divD _ _ = some _ ∧ _); refine ⟨_, div_ii (by omega) (by omega), ?_⟩)
  | ((with_reducible show ∃ _, mixE _ _ _ = some _ ∧ _); refine ⟨_, mix_nil rfl, ?_⟩)
  | ((with_reducible show _ < List.length _ ∧ _); refine ⟨of_decide_eq_true rfl, ?_⟩; (try simp only [List.set_cons_zero, List.set_cons_succ, O.fz, fzs_ints, fzs_purs, keepE_cons, keepE_nil, wipeE]))
  | ((with_reducible show (_ < List.length _ ∧ _) ∧ _); refine ⟨of_decide_eq_true rfl, ?_⟩; (try simp only [List.set_cons_zero, List.set_cons_succ, O.fz, fzs_ints, fzs_purs, keepE_cons, keepE_nil, wipeE]))
  | ((with_reducible show List.length _ ≤ 1000 ∧ _); refine ⟨of_decide_eq_true rfl, ?_⟩; (try simp only [List.set_cons_zero, List.set_cons_succ, O.fz, fzs_ints, fzs_purs, keepE_cons, keepE_nil, wipeE]))
  | ((with_reducible show flatO _ = true ∧ _); refine ⟨rfl, ?_⟩)
  | ((with_reducible show Ev (eaLate _ _) _ _); refine Ev_late rfl ?_)
  | with_reducible refine S_setIx ?_
  | ((with_reducible show EvS (sAugIx _ _ _ _) _ _ _ _ _); refine S_augIx rfl ?_)
  | ((with_reducible show EvS (sAug _ _ _) _ _ _ _ _); refine S_aug rfl ?_)
  | ((with_reducible show ∃ a b c, _ = D.int a ∧ _ ∧ _ ∧ _); refine ⟨_, _, _, rfl, rfl, rfl, ?_⟩; simp only [List.set_cons_zero, List.set_cons_succ, Int.toNat_ofNat, Int.reduceToNat])
  | ((with_reducible show ∃ a b c, _ = D.int a ∧ _ ∧ _ ∧ _); refine ⟨_, _, _, rfl, rfl, rfl, ?_⟩)
  | ((with_reducible show ∃ _, ixD _ _ = some _ ∧ _); refine ⟨_, rfl, ?_⟩)
  | ((with_reducible show ∃ _, lenD _ = some _ ∧ _); refine ⟨_, rfl, ?_⟩)
  | ((with_reducible show ∃ _, absD _ = some _ ∧ _); refine ⟨_, rfl, ?_⟩)
  | ((with_reducible show ∃ _, itemsD _ = some _ ∧ _); refine ⟨_, rfl, ?_⟩)
  | ((with_reducible show ∃ _, tupleD _ = some _ ∧ _); refine ⟨_, rfl, ?_⟩)
  | ((with_reducible show ∃ _, listD _ = some _ ∧ _); refine ⟨_, rfl, ?_⟩)
  | ((with_reducible show ∃ _, listL _ = some _ ∧ _); refine ⟨_, rfl, ?_⟩)
  | ((with_reducible show ∃ _, toIntD _ = some _ ∧ _); refine ⟨_, rfl, ?_⟩)
  | ((with_reducible show ∃ _, isD _ _ = some _ ∧ _); refine ⟨_, rfl, ?_⟩)
  | ((with_reducible show ∃ _, isNotD _ _ = some _ ∧ _); refine ⟨_, rfl, ?_⟩)
  | ((with_reducible show ∃ _, takeS _ _ = some _ ∧ _); refine ⟨_, rfl, ?_⟩)
  | ((with_reducible show ∃ _, fName _ _ _ = some _ ∧ _); refine ⟨_, rfl, ?_⟩; (try simp only [List.set_cons_zero, List.set_cons_succ]))
  | ((with_reducible show ∃ _, fTup _ _ _ _ = some _ ∧ _); refine ⟨_, rfl, ?_⟩; (try simp only [List.set_cons_zero, List.set_cons_succ]))
  | ((with_reducible show ∃ _, slD _ _ _ = some _ ∧ _); refine ⟨_, rfl, ?_⟩)
  | ((with_reducible show ∃ _, slL _ _ _ = some _ ∧ _); refine ⟨_, rfl, ?_⟩)
  | ((with_reducible show ∃ _, List.set _ _ _ = some _ ∧ _); refine ⟨_, rfl, ?_⟩)
  | ((with_reducible show ∃ _, getElem? _ _ = some _ ∧ _); refine ⟨_, rfl, ?_⟩)
  | ((with_reducible show ∃ _, rangeD1 [D.int (Nat.cast _)] = some _ ∧ _); refine ⟨_, range_nat (by omega), ?_⟩) | ((with_reducible show ∃ _, rangeD1 _ = some _ ∧ _); refine ⟨_, range_lit (by omega) (by omega), ?_⟩)
  | ((with_reducible show ∃ _, _ = D.int _ ∧ _); refine ⟨_, rfl, ?_⟩)
  | ((with_reducible show ∃ _, maxD [D.int _, D.int _] = some _ ∧ _); refine ⟨_, rfl, ?_⟩) | ((with_reducible show ∃ _, minD [D.int _, D.int _] = some _ ∧ _); refine ⟨_, rfl, ?_⟩)
  | ((with_reducible show ∃ _, truD _ = some _ ∧ _); refine ⟨_, rfl, ?_⟩)
  | ((with_reducible show ∃ _, _ = D.bl _ ∧ _); refine ⟨_, rfl, ?_⟩)
  | ((with_reducible show ∃ _, neD (.str _) (.str _) = some _ ∧ _); refine ⟨_, ne_str _, ?_⟩) | ((with_reducible show ∃ _, eqD (.str _) (.str _) = some _ ∧ _); refine ⟨_, eq_str _, ?_⟩))
local macro_rules | `(tactic| walk_at "e") => `(tactic| repeat walk_at "e1")
local macro_rules | `(tactic| walk_at "s") => `(tactic| repeat (first | with_reducible refine S_seq ?_ | walk_at "e1"))
local macro_rules | `(tactic| walk_at "n") => `(tactic| try simp only [List.set_cons_zero, List.set_cons_succ, O.fz, fzs_ints, fzs_purs, keepE_cons, keepE_nil, wipeE])
local macro_rules | `(tactic| walk_at "e1") => `(tactic| ((with_reducible show Ev (eCall f_law_take _ _) _ _); refine Ev_take rfl (by assumption) ?_; (try simp only [List.set_cons_zero, List.set_cons_succ])))
local macro_rules | `(tactic| walk_at "e1") => `(tactic| ((with_reducible show ∀ _ _, _ → _ → BagOk _ → _); intro r o' h1 h2 hb; (try simp only [List.set_cons_zero, List.set_cons_succ, O.fz])))
local macro_rules | `(tactic| walk_at "e1") => `(tactic| ((with_reducible show _ < _ ∧ _); refine ⟨by omega, ?_⟩))
local macro_rules | `(tactic| walk_at "e1") => `(tactic| ((with_reducible show Ev (eCall f_law_size _ _) _ _); refine Ev_size rfl (by assumption) ?_; (try simp only [List.set_cons_zero, List.set_cons_succ])))
local macro_rules | `(tactic| walk_at "e1") => `(tactic| ((with_reducible show ∃ _, lenD [D.lst (rowsD _)] = some _ ∧ _); refine ⟨_, rfl, ?_⟩; rw [rowsD_len]))
local macro_rules | `(tactic| walk_at "e1") => `(tactic| ((with_reducible show ∃ _, isaD _ = some _ ∧ _); refine ⟨_, rfl, ?_⟩))
local macro_rules | `(tactic| walk_at "e1") => `(tactic| ((with_reducible show ∃ _, rangeD1 [D.int (_ + 1)] = some _ ∧ _); refine ⟨_, range_succ' (by omega), ?_⟩))
local macro_rules | `(tactic| walk_at "e1") => `(tactic| ((with_reducible show ∃ _, rangeD1 [D.int (1 + _)] = some _ ∧ _); refine ⟨_, range_one_add (by omega) (by omega), ?_⟩))
local macro_rules | `(tactic| walk_at "e1") => `(tactic| ((with_reducible show EvS (sFrz _ _) _ _ _ _ _); refine S_frz rfl ?_; (try simp only [List.set_cons_zero, List.set_cons_succ, O.fz, fzs, fzs_ints, fzs_purs])))
local macro_rules | `(tactic| walk_at "e1") => `(tactic| first | with_reducible refine S_par2 ?_ | with_reducible refine S_par3 ?_)
local macro_rules | `(tactic| walk_at "e1") => `(tactic| ((with_reducible show ∃ o1 o2 : O, _ = [o1, o2] ∧ _); refine ⟨_, _, rfl, ?_⟩))
local macro_rules | `(tactic| walk_at "e1") => `(tactic| ((with_reducible show ∃ o1 o2 o3 : O, _ = [o1, o2, o3] ∧ _); refine ⟨_, _, _, rfl, ?_⟩))
local macro_rules | `(tactic| walk_at "e1") => `(tactic| ((with_reducible show (_ < List.length _ ∧ _ < List.length _ ∧ _ < List.length _) ∧ _); refine ⟨of_decide_eq_true rfl, ?_⟩; (try simp only [List.set_cons_zero, List.set_cons_succ, O.fz, fzs_ints, fzs_purs, keepE_cons, keepE_nil, wipeE])))
local macro_rules | `(tactic| walk_at "e1") => `(tactic| first
  | ((with_reducible show Ev (eMCallD _ _ _ _ _) _ _); refine Ev_mcallD (fun _ _ _ h => runB_nil h) ?_)
  | ((with_reducible show Ev (eMCallK _ _ _ _ _ _) _ _); refine Ev_mcallK (fun _ _ _ h => runB_nil h) ?_)
  | ((with_reducible show Ev (eCallK _ _ _) _ _); refine Ev_callK (fun _ _ _ h => runB_nil h) ?_)
  | with_reducible refine Ev_make ?_
  | ((with_reducible show ∃ _, fldD "Endless" "wide" (endD _ _) = some _ ∧ _); refine ⟨_, end_wide, ?_⟩)
  | ((with_reducible show ∃ _, fldD "Endless" "rows" (endD _ _) = some _ ∧ _); refine ⟨_, end_rows, ?_⟩)
  | ((with_reducible show ∃ _, fldD "Endless" "sums" (endD _ _) = some _ ∧ _); refine ⟨_, end_sums, ?_⟩)
  | ((with_reducible show isIns _ _ (endD _ _) = true ∧ _); refine ⟨rfl, ?_⟩)
  | ((with_reducible show ∃ _, divmodD [D.int _, D.int _] = some _ ∧ _); refine ⟨_, divmod_ii (by omega) (by omega), ?_⟩)
  | ((with_reducible show ∃ _, lenD [mapL _ _] = some _ ∧ _); refine ⟨_, mapL_len, ?_⟩)
  | ((with_reducible show ∃ _, itemsD (mapL _ _) = some _ ∧ _); refine ⟨_, mapL_items, ?_⟩)
  | ((with_reducible show (if isNon (D.int _) = true then _ else _)); rw [if_neg (show ¬ (isNon (D.int _) = true) from Bool.false_ne_true)])
  | ((with_reducible show (if isNon D.non = true then _ else _)); rw [if_pos (show isNon D.non = true from rfl)])
  | ((with_reducible show (if (!isNon (D.int _)) = true then _ else _)); rw [if_pos (show (!isNon (D.int _)) = true from rfl)])
  | ((with_reducible show (if (!isNon D.non) = true then _ else _)); rw [if_neg (show ¬ ((!isNon D.non) = true) from Bool.false_ne_true)])
  | ((with_reducible show (if isNon (mapL _ _) = true then _ else _)); rw [if_neg (show ¬ (isNon (mapL _ _) = true) from Bool.false_ne_true)])
  | ((with_reducible show (if isNon (jD none) = true then _ else _)); rw [if_pos (show isNon (jD none) = true from rfl)])
  | ((with_reducible show (if isNon (jD (some _)) = true then _ else _)); rw [if_neg (show ¬ (isNon (jD (some _)) = true) from Bool.false_ne_true)])
  | ((with_reducible show (if (!isNon (jD none)) = true then _ else _)); rw [if_neg (show ¬ ((!isNon (jD none)) = true) from Bool.false_ne_true)])
  | ((with_reducible show (if (!isNon (jD (some _))) = true then _ else _)); rw [if_pos (show (!isNon (jD (some _))) = true from rfl)])
  | with_reducible refine Ev_methT ?_)
local macro_rules | `(tactic| walk_at "e1") => `(tactic| first
  | ((with_reducible show EvS (sTupO _ _) _ _ _ _ _); refine S_tupO ?_)
  | ((with_reducible show Ev eDNew _ _); refine Ev_dnew ?_)
  | ((with_reducible show Ev (eMCallI _ _ _ _ false _ _) _ _); refine Ev_mcallI rfl (Ev_recvN ?_))
  | ((with_reducible show Ev (eMCallI _ _ _ _ true _ _) _ _); refine Ev_mcallI rfl (Ev_recvL ?_))
  | ((with_reducible show ∃ os : List O, O.tup _ = O.tup os ∧ _ ∧ _ ∧ _); refine ⟨_, rfl, rfl, of_decide_eq_true rfl, ?_⟩; simp only [setAll, List.set_cons_zero, List.set_cons_succ])
  | ((with_reducible show isIns _ _ (chD _ _ _ _ _ _ _) = true ∧ _); refine ⟨rfl, ?_⟩))
local macro_rules | `(tactic| walk_at "e1") => `(tactic| first
  | ((with_reducible show ∃ _, fldD "Chain" "firsts" (chD _ _ _ _ _ _ _) = some _ ∧ _); refine ⟨_, ch_firsts, ?_⟩)
  | ((with_reducible show ∃ _, fldD "Chain" "entries" (chD _ _ _ _ _ _ _) = some _ ∧ _); refine ⟨_, ch_entries, ?_⟩)
  | ((with_reducible show ∃ _, fldD "Chain" "rows" (chD _ _ _ _ _ _ _) = some _ ∧ _); refine ⟨_, ch_rows, ?_⟩)
  | ((with_reducible show ∃ _, fldD "Chain" "sums" (chD _ _ _ _ _ _ _) = some _ ∧ _); refine ⟨_, ch_sums, ?_⟩)
  | ((with_reducible show ∃ _, fldD "Chain" "wide" (chD _ _ _ _ _ _ _) = some _ ∧ _); refine ⟨_, ch_wide, ?_⟩))
/-! stairs -/
inductive Run (G : Int → Int → Prop) : Int → List (Int × Int) → Prop
  | last {a : Int} : IsLeast (G a) 0 → Run G a [(a, 0)]
  | step {a s a' : Int} {l : List (Int × Int)} : IsLeast (G a) s → 0 < s → IsLeast (fun x => G x (s - 1)) a' → Run G a' l → Run G a ((a, s) :: l)
inductive Lk (G : Int → Int → Prop) : List (Int × Int) → Int → Int → Prop
  | base {s : Int} : IsLeast (G 0) s → Lk G [] 0 s
  | snoc {pre : List (Int × Int)} {a s a' s' : Int} : Lk G pre a s → 0 < s → IsLeast (fun x => G x (s - 1)) a' → IsLeast (G a') s' → Lk G (pre ++ [(a, s)]) a' s'
theorem Lk.least {G : Int → Int → Prop} {pre : List (Int × Int)} {a s : Int} (h : Lk G pre a s) : IsLeast (G a) s := by
  cases h with
  | base h => exact h
  | snoc _ _ _ h => exact h
theorem Lk.run {G : Int → Int → Prop} {pre : List (Int × Int)} {a s : Int} (h : Lk G pre a s) : ∀ l, Run G a ((a, s) :: l) → Run G 0 (pre ++ (a, s) :: l) := by
  induction h with
  | base h => intro l k; exact k
  | snoc h1 h2 h3 h4 ih =>
    intro l k
    rw [List.append_assoc]
    exact ih _ (.step h1.least h2 h3 k)
end DL.W
set_option Elab.async false
set_option linter.all false
set_option maxRecDepth 100000
set_option maxHeartbeats 4000000
/-! The data layer: xs.index(x). -/
namespace DL
open PySem PySem.Spec PyProof.Rows L2
end DL
set_option Elab.async false
set_option linter.all false
set_option maxRecDepth 100000
set_option maxHeartbeats 4000000
/-! Sightings: what an observer sees, and the facts. -/
namespace DL.Sh
open PySem PySem.Spec PyProof.Rows L2
/-- one step backwards -/
local macro_rules | `(tactic| walk_at "e1") => `(tactic| first
  | with_reducible refine S_next ?_ | with_reducible refine S_ret ?_ | with_reducible refine S_drop ?_ | with_reducible refine S_if ?_ | with_reducible refine S_for ?_
  | with_reducible refine Ev_C ?_ | with_reducible refine Ev_fz ?_ | with_reducible refine Ev_pur ?_ | with_reducible refine Ev_op2 ?_ | with_reducible refine Ev_top2 ?_ | with_reducible refine Ev_op1 ?_ | with_reducible refine Ev_val ?_
  | with_reducible refine Ev_tand ?_ | with_reducible refine Ev_tor ?_ | with_reducible refine Ev_tnot ?_ | with_reducible refine Ev_and ?_ | with_reducible refine Ev_or ?_ | with_reducible refine Ev_not ?_ | with_reducible refine Ev_if ?_
  | with_reducible refine Ev_anil ?_ | with_reducible refine Ev_acons ?_ | with_reducible refine Ev_eanil ?_ | with_reducible refine Ev_eacons ?_ | with_reducible refine Ev_call ?_ | with_reducible refine Ev_onone ?_ | with_reducible refine Ev_osome ?_
  | with_reducible refine Ev_sl ?_ | with_reducible refine Ev_esl ?_ | with_reducible refine Ev_eop2 ?_ | with_reducible refine Ev_eargs ?_ | with_reducible refine Ev_iseq ?_ | with_reducible refine Ev_iargs ?_ | with_reducible refine Ev_yes ?_
  | with_reducible refine Ev_chain ?_ | with_reducible refine Ev_tchain ?_
  | (with_reducible refine Ev_tbor ?_; simp only [frzE, Option.map_some, Option.map_none, O.fz, fzs, fzs_ints, fzs_purs])
  | (with_reducible refine Ev_bor ?_; simp only [frzE, Option.map_some, Option.map_none, O.fz, fzs, fzs_ints, fzs_purs])
  | ((with_reducible show (if (!true) = true then _ else _)); rw [if_neg (by decide)]) | ((with_reducible show (if (!false) = true then _ else _)); rw [if_pos (by decide)])
  | with_reducible refine Ev_call1 ?_ | ((with_reducible show (if true = true then _ else _)); rw [if_pos rfl]) | ((with_reducible show (if false = true then _ else _)); rw [if_neg Bool.false_ne_true])
  | ((with_reducible show Ev (dVar _) _ _); refine Ev_var rfl ?_)
  | ((with_reducible show Ev (eMove _) _ _); refine Ev_move rfl ?_; (try simp only [List.set_cons_zero, List.set_cons_succ]))
  | ((with_reducible refine S_set ?_))
  | (with_reducible refine S_asg ?_)
  | ((with_reducible refine Ev_tup ?_)) | ((with_reducible refine Ev_lst ?_)) | ((with_reducible refine Ev_elst ?_)) | ((with_reducible refine Ev_etup ?_))
  | ((with_reducible show ∃ _, powD _ _ = some _ ∧ _); refine ⟨_, pow18, ?_⟩) | ((with_reducible show ∃ _, powD _ _ = some _ ∧ _); refine ⟨_, rfl, ?_⟩; simp only [Int.reduceToNat, Int.reducePow]) | ((with_reducible show ∃ _, addD _ _ = some _ ∧ _); refine ⟨_, add_ii _ _, ?_⟩) | ((with_reducible show ∃ _, eqD _ _ = some _ ∧ _); refine ⟨_, eq_dec _ _, ?_⟩) | ((with_reducible show ∃ _, neD _ _ = some _ ∧ _); refine ⟨_, ne_dec _ _, ?_⟩) | ((with_reducible show ∃ _, ltD _ _ = some _ ∧ _); refine ⟨_, lt_dec _ _, ?_⟩) | ((with_reducible show ∃ _, leD _ _ = some _ ∧ _); refine ⟨_, le_dec _ _, ?_⟩) | ((with_reducible show ∃ _, gtD _ _ = some _ ∧ _); refine ⟨_, gt_dec _ _, ?_⟩) | ((with_reducible show ∃ _, geD _ _ = some _ ∧ _); refine ⟨_, ge_dec _ _, ?_⟩) | ((with_reducible show ∃ _, subD _ _ = some _ ∧ _); refine ⟨_, sub_ii _ _, ?_⟩) | ((with_reducible show ∃ _, negD _ = some _ ∧ _); refine ⟨_, neg_i _, ?_⟩)
  | ((with_reducible show ∃ _, mulD _ _ = some _ ∧ _); refine ⟨_, mul_ii (by omega), ?_⟩) | ((with_reducible show ∃ _, modD _ _ = some _ ∧ _); refine ⟨_, mod_ii (by omega), ?_⟩) | ((with_reducible show ∃ _, divD _ _ = some _ ∧ _); refine ⟨_, div_ii (by omega) (by omega), ?_⟩)
  | ((with_reducible show ∃ _, mixE _ _ _ = some _ ∧ _); refine ⟨_, mix_nil rfl, ?_⟩)
  | ((with_reducible show _ < List.length _ ∧ _); refine ⟨of_decide_eq_true rfl, ?_⟩; (try simp only [List.set_cons_zero, List.set_cons_succ, O.fz, fzs_ints, fzs_purs, keepE_cons, keepE_nil, wipeE]))
  | ((with_reducible show (_ < List.length _ ∧ _) ∧ _); refine ⟨of_decide_eq_true rfl, ?_⟩; (try simp only [List.set_cons_zero, List.set_cons_succ, O.fz, fzs_ints, fzs_purs, keepE_cons, keepE_nil, wipeE]))
  | ((with_reducible show List.length _ ≤ 1000 ∧ _); refine ⟨of_decide_eq_true rfl, ?_⟩; (try simp only [List.set_cons_zero, List.set_cons_succ, O.fz, fzs_ints, fzs_purs, keepE_cons, keepE_nil, wipeE]))
  | ((with_reducible show flatO _ = true ∧ _); refine ⟨rfl, ?_⟩)
  | ((with_reducible show Ev (eaLate _ _) _ _); refine Ev_late rfl ?_)
  | with_reducible refine S_setIx ?_
  | ((with_reducible show EvS (sAugIx _ _ _ _) _ _ _ _ _); refine S_augIx rfl ?_)
  | ((with_reducible show EvS (sAug _ _ _) _ _ _ _ _); refine S_aug rfl ?_)
  | ((with_reducible show ∃ a b c, _ = D.int a ∧ _ ∧ _ ∧ _); refine ⟨_, _, _, rfl, rfl, rfl, ?_⟩; simp only [List.set_cons_zero, List.set_cons_succ, Int.toNat_ofNat, Int.reduceToNat])
  | ((with_reducible show ∃ a b c, _ = D.int a ∧ _ ∧ _ ∧ _); refine ⟨_, _, _, rfl, rfl, rfl, ?_⟩)
  | ((with_reducible show ∃ _, ixD _ _ = some _ ∧ _); refine ⟨_, rfl, ?_⟩)
  | ((with_reducible show ∃ _, lenD _ = some _ ∧ _); refine ⟨_, rfl, ?_⟩)
  | ((with_reducible show ∃ _, absD _ = some _ ∧ _); refine ⟨_, rfl, ?_⟩)
  | ((with_reducible show ∃ _, itemsD _ = some _ ∧ _); refine ⟨_, rfl, ?_⟩)
  | ((with_reducible show ∃ _, tupleD _ = some _ ∧ _); refine ⟨_, rfl, ?_⟩)
  | ((with_reducible show ∃ _, listD _ = some _ ∧ _); refine ⟨_, rfl, ?_⟩)
  | ((with_reducible show ∃ _, listL _ = some _ ∧ _); refine ⟨_, rfl, ?_⟩)
  | ((with_reducible show ∃ _, toIntD _ = some _ ∧ _); refine ⟨_, rfl, ?_⟩)
  | ((with_reducible show ∃ _, isD _ _ = some _ ∧ _); refine ⟨_, rfl, ?_⟩)
  | ((with_reducible show ∃ _, isNotD _ _ = some _ ∧ _); refine ⟨_, rfl, ?_⟩)
  | ((with_reducible show ∃ _, takeS _ _ = some _ ∧ _); refine ⟨_, rfl, ?_⟩)
  | ((with_reducible show ∃ _, fName _ _ _ = some _ ∧ _); refine ⟨_, rfl, ?_⟩; (try simp only [List.set_cons_zero, List.set_cons_succ]))
  | ((with_reducible show ∃ _, fTup _ _ _ _ = some _ ∧ _); refine ⟨_, rfl, ?_⟩; (try simp only [List.set_cons_zero, List.set_cons_succ]))
  | ((with_reducible show ∃ _, slD _ _ _ = some _ ∧ _); refine ⟨_, rfl, ?_⟩)
  | ((with_reducible show ∃ _, slL _ _ _ = some _ ∧ _); refine ⟨_, rfl, ?_⟩)
  | ((with_reducible show ∃ _, List.set _ _ _ = some _ ∧ _); refine ⟨_, rfl, ?_⟩)
  | ((with_reducible show ∃ _, getElem? _ _ = some _ ∧ _); refine ⟨_, rfl, ?_⟩)
  | ((with_reducible show ∃ _, rangeD1 [D.int (Nat.cast _)] = some _ ∧ _); refine ⟨_, range_nat (by omega), ?_⟩) | ((with_reducible show ∃ _, rangeD1 _ = some _ ∧ _); refine ⟨_, range_lit (by omega) (by omega), ?_⟩)
  | ((with_reducible show ∃ _, _ = D.int _ ∧ _); refine ⟨_, rfl, ?_⟩)
  | ((with_reducible show ∃ _, maxD [D.int _, D.int _] = some _ ∧ _); refine ⟨_, rfl, ?_⟩) | ((with_reducible show ∃ _, minD [D.int _, D.int _] = some _ ∧ _); refine ⟨_, rfl, ?_⟩)
  | ((with_reducible show ∃ _, truD _ = some _ ∧ _); refine ⟨_, rfl, ?_⟩)
  | ((with_reducible show ∃ _, _ = D.bl _ ∧ _); refine ⟨_, rfl, ?_⟩)
  | ((with_reducible show ∃ _, neD (.str _) (.str _) = some _ ∧ _); refine ⟨_, ne_str _, ?_⟩) | ((with_reducible show ∃ _, eqD (.str _) (.str _) = some _ ∧ _); refine ⟨_, eq_str _, ?_⟩))
local macro_rules | `(tactic| walk_at "e") => `(tactic| repeat walk_at "e1")
local macro_rules | `(tactic| walk_at "s") => `(tactic| repeat (first | with_reducible refine S_seq ?_ | walk_at "e1"))
local macro_rules | `(tactic| walk_at "n") => `(tactic| try simp only [List.set_cons_zero, List.set_cons_succ, O.fz, fzs_ints, fzs_purs, keepE_cons, keepE_nil, wipeE])
local macro_rules | `(tactic| walk_at "e1") => `(tactic| ((with_reducible show Ev (eCall f_law_take _ _) _ _); refine Ev_take rfl (by assumption) ?_; (try simp only [List.set_cons_zero, List.set_cons_succ])))
local macro_rules | `(tactic| walk_at "e1") => `(tactic| ((with_reducible show ∀ _ _, _ → _ → BagOk _ → _); intro r o' h1 h2 hb; (try simp only [List.set_cons_zero, List.set_cons_succ, O.fz])))
local macro_rules | `(tactic| walk_at "e1") => `(tactic| ((with_reducible show _ < _ ∧ _); refine ⟨by omega, ?_⟩))
local macro_rules | `(tactic| walk_at "e1") => `(tactic| ((with_reducible show Ev (eCall f_law_size _ _) _ _); refine Ev_size rfl (by assumption) ?_; (try simp only [List.set_cons_zero, List.set_cons_succ])))
local macro_rules | `(tactic| walk_at "e1") => `(tactic| ((with_reducible show ∃ _, lenD [D.lst (rowsD _)] = some _ ∧ _); refine ⟨_, rfl, ?_⟩; rw [rowsD_len]))
local macro_rules | `(tactic| walk_at "e1") => `(tactic| ((with_reducible show ∃ _, isaD _ = some _ ∧ _); refine ⟨_, rfl, ?_⟩))
local macro_rules | `(tactic| walk_at "e1") => `(tactic| ((with_reducible show ∃ _, rangeD1 [D.int (_ + 1)] = some _ ∧ _); refine ⟨_, range_succ' (by omega), ?_⟩))
local macro_rules | `(tactic| walk_at "e1") => `(tactic| ((with_reducible show ∃ _, rangeD1 [D.int (1 + _)] = some _ ∧ _); refine ⟨_, range_one_add (by omega) (by omega), ?_⟩))
local macro_rules | `(tactic| walk_at "e1") => `(tactic| ((with_reducible show EvS (sFrz _ _) _ _ _ _ _); refine S_frz rfl ?_; (try simp only [List.set_cons_zero, List.set_cons_succ, O.fz, fzs, fzs_ints, fzs_purs])))
local macro_rules | `(tactic| walk_at "e1") => `(tactic| first | with_reducible refine S_par2 ?_ | with_reducible refine S_par3 ?_)
local macro_rules | `(tactic| walk_at "e1") => `(tactic| ((with_reducible show ∃ o1 o2 : O, _ = [o1, o2] ∧ _); refine ⟨_, _, rfl, ?_⟩))
local macro_rules | `(tactic| walk_at "e1") => `(tactic| ((with_reducible show ∃ o1 o2 o3 : O, _ = [o1, o2, o3] ∧ _); refine ⟨_, _, _, rfl, ?_⟩))
local macro_rules | `(tactic| walk_at "e1") => `(tactic| ((with_reducible show (_ < List.length _ ∧ _ < List.length _ ∧ _ < List.length _) ∧ _); refine ⟨of_decide_eq_true rfl, ?_⟩; (try simp only [List.set_cons_zero, List.set_cons_succ, O.fz, fzs_ints, fzs_purs, keepE_cons, keepE_nil, wipeE])))
local macro_rules | `(tactic| walk_at "e1") => `(tactic| first
  | ((with_reducible show Ev (eMCallD _ _ _ _ _) _ _); refine Ev_mcallD (fun _ _ _ h => runB_nil h) ?_)
  | ((with_reducible show Ev (eMCallK _ _ _ _ _ _) _ _); refine Ev_mcallK (fun _ _ _ h => runB_nil h) ?_)
  | ((with_reducible show Ev (eCallK _ _ _) _ _); refine Ev_callK (fun _ _ _ h => runB_nil h) ?_)
  | with_reducible refine Ev_make ?_
  | ((with_reducible show ∃ _, fldD "Endless" "wide" (endD _ _) = some _ ∧ _); refine ⟨_, end_wide, ?_⟩)
  | ((with_reducible show ∃ _, fldD "Endless" "rows" (endD _ _) = some _ ∧ _); refine ⟨_, end_rows, ?_⟩)
  | ((with_reducible show ∃ _, fldD "Endless" "sums" (endD _ _) = some _ ∧ _); refine ⟨_, end_sums, ?_⟩)
  | ((with_reducible show isIns _ _ (endD _ _) = true ∧ _); refine ⟨rfl, ?_⟩)
  | ((with_reducible show ∃ _, divmodD [D.int _, D.int _] = some _ ∧ _); refine ⟨_, divmod_ii (by omega) (by omega), ?_⟩)
  | ((with_reducible show ∃ _, lenD [mapL _ _] = some _ ∧ _); refine ⟨_, mapL_len, ?_⟩)
  | ((with_reducible show ∃ _, itemsD (mapL _ _) = some _ ∧ _); refine ⟨_, mapL_items, ?_⟩)
  | ((with_reducible show (if isNon (D.int _) = true then _ else _)); rw [if_neg (show ¬ (isNon (D.int _) = true) from Bool.false_ne_true)])
  | ((with_reducible show (if isNon D.non = true then _ else _)); rw [if_pos (show isNon D.non = true from rfl)])
  | ((with_reducible show (if (!isNon (D.int _)) = true then _ else _)); rw [if_pos (show (!isNon (D.int _)) = true from rfl)])
  | ((with_reducible show (if (!isNon D.non) = true then _ else _)); rw [if_neg (show ¬ ((!isNon D.non) = true) from Bool.false_ne_true)])
  | ((with_reducible show (if isNon (mapL _ _) = true then _ else _)); rw [if_neg (show ¬ (isNon (mapL _ _) = true) from Bool.false_ne_true)])
  | ((with_reducible show (if isNon (jD none) = true then _ else _)); rw [if_pos (show isNon (jD none) = true from rfl)])
  | ((with_reducible show (if isNon (jD (some _)) = true then _ else _)); rw [if_neg (show ¬ (isNon (jD (some _)) = true) from Bool.false_ne_true)])
  | ((with_reducible show (if (!isNon (jD none)) = true then _ else _)); rw [if_neg (show ¬ ((!isNon (jD none)) = true) from Bool.false_ne_true)])
  | ((with_reducible show (if (!isNon (jD (some _))) = true then _ else _)); rw [if_pos (show (!isNon (jD (some _))) = true from rfl)])
  | with_reducible refine Ev_methT ?_)
local macro_rules | `(tactic| walk_at "e1") => `(tactic| first
  | ((with_reducible show EvS (sTupO _ _) _ _ _ _ _); refine S_tupO ?_)
  | ((with_reducible show Ev eDNew _ _); refine Ev_dnew ?_)
  | ((with_reducible show Ev (eMCallI _ _ _ _ false _ _) _ _); refine Ev_mcallI rfl (Ev_recvN ?_))
  | ((with_reducible show Ev (eMCallI _ _ _ _ true _ _) _ _); refine Ev_mcallI rfl (Ev_recvL ?_))
  | ((with_reducible show ∃ os : List O, O.tup _ = O.tup os ∧ _ ∧ _ ∧ _); refine ⟨_, rfl, rfl, of_decide_eq_true rfl, ?_⟩; simp only [setAll, List.set_cons_zero, List.set_cons_succ])
  | ((with_reducible show isIns _ _ (chD _ _ _ _ _ _ _) = true ∧ _); refine ⟨rfl, ?_⟩))
local macro_rules | `(tactic| walk_at "e1") => `(tactic| first
  | ((with_reducible show ∃ _, fldD "Chain" "firsts" (chD _ _ _ _ _ _ _) = some _ ∧ _); refine ⟨_, ch_firsts, ?_⟩)
  | ((with_reducible show ∃ _, fldD "Chain" "entries" (chD _ _ _ _ _ _ _) = some _ ∧ _); refine ⟨_, ch_entries, ?_⟩)
  | ((with_reducible show ∃ _, fldD "Chain" "rows" (chD _ _ _ _ _ _ _) = some _ ∧ _); refine ⟨_, ch_rows, ?_⟩)
  | ((with_reducible show ∃ _, fldD "Chain" "sums" (chD _ _ _ _ _ _ _) = some _ ∧ _); refine ⟨_, ch_sums, ?_⟩)
  | ((with_reducible show ∃ _, fldD "Chain" "wide" (chD _ _ _ _ _ _ _) = some _ ∧ _); refine ⟨_, ch_wide, ?_⟩))
theorem all_blsK (bs : List Bool) : allD [.lst (bs.map .bl)] = some (.bl (bs.all id)) := by
  show (bsOf (bs.map D.bl)).map _ = _
  rw [bsOf_map]; rfl
/-! facts -/
abbrev Fct := Bool × (Nat × Nat) × Int
/-! what is seen of a plain chain -/
end DL.Sh
set_option Elab.async false
set_option linter.all false
set_option maxRecDepth 100000
set_option maxHeartbeats 1000000
/-! The data layer: two keywords in the other order. -/
namespace DL
open PySem PySem.Spec PyProof.Rows L2
end DL
set_option Elab.async false
set_option linter.all false
set_option maxRecDepth 100000
set_option maxHeartbeats 4000000
/-! Facts: walks along them, what they say. -/
namespace DL.Sh
open PySem PySem.Spec PyProof.Rows L2
/-- one step backwards -/
local macro_rules | `(tactic| walk_at "e1") => `(tactic| first
  | with_reducible refine S_next ?_ | with_reducible refine S_ret ?_ | with_reducible refine S_drop ?_ | with_reducible refine S_if ?_ | with_reducible refine S_for ?_
  | with_reducible refine Ev_C ?_ | with_reducible refine Ev_fz ?_ | with_reducible refine Ev_pur ?_ | with_reducible refine Ev_op2 ?_ | with_reducible refine Ev_top2 ?_ | with_reducible refine Ev_op1 ?_ | with_reducible refine Ev_val ?_
  | with_reducible refine Ev_tand ?_ | with_reducible refine Ev_tor ?_ | with_reducible refine Ev_tnot ?_ | with_reducible refine Ev_and ?_ | with_reducible refine Ev_or ?_ | with_reducible refine Ev_not ?_ | with_reducible refine Ev_if ?_
  | with_reducible refine Ev_anil ?_ | with_reducible refine Ev_acons ?_ | with_reducible refine Ev_eanil ?_ | with_reducible refine Ev_eacons ?_ | with_reducible refine Ev_call ?_ | with_reducible refine Ev_onone ?_ | with_reducible refine Ev_osome ?_
  | with_reducible refine Ev_sl ?_ | with_reducible refine Ev_esl ?_ | with_reducible refine Ev_eop2 ?_ | with_reducible refine Ev_eargs ?_ | with_reducible refine Ev_iseq ?_ | with_reducible refine Ev_iargs ?_ | with_reducible refine Ev_yes ?_
  | with_reducible refine Ev_chain ?_ | with_reducible refine Ev_tchain ?_
  | (with_reducible refine Ev_tbor ?_; simp only [frzE, Option.map_some, Option.map_none, O.fz, fzs, fzs_ints, fzs_purs])
  | (with_reducible refine Ev_bor ?_; simp only [frzE, Option.map_some, Option.map_none, O.fz, fzs, fzs_ints, fzs_purs])
  | ((with_reducible show (if (!true) = true then _ else _)); rw [if_neg (by decide)]) | ((with_reducible show (if (!false) = true then _ else _)); rw [if_pos (by decide)])
  | with_reducible refine Ev_call1 ?_ | ((with_reducible show (if true = true then _ else _)); rw [if_pos rfl]) | ((with_reducible show (if false = true then _ else _)); rw [if_neg Bool.false_ne_true])
  | ((with_reducible show Ev (dVar _) _ _); refine Ev_var rfl ?_)
  | ((with_reducible show Ev (eMove _) _ _); refine Ev_move rfl ?_; (try simp only [List.set_cons_zero, List.set_cons_succ]))
  | ((with_reducible refine S_set ?_))
  | (with_reducible refine S_asg ?_)
  | ((with_reducible refine Ev_tup ?_)) | ((with_reducible refine Ev_lst ?_)) | ((with_reducible refine Ev_elst ?_)) | ((with_reducible refine Ev_etup ?_))
  | ((with_reducible show ∃ _, powD _ _ = some _ ∧ _); refine ⟨_, pow18, ?_⟩) | ((with_reducible show ∃ _, powD _ _ = some _ ∧ _); refine ⟨_, rfl, ?_⟩; simp only [Int.reduceToNat, Int.reducePow]) | ((with_reducible show ∃ _, addD _ _ = some _ ∧ _); refine ⟨_, add_ii _ _, ?_⟩) | ((with_reducible show ∃ _, eqD _ _ = some _ ∧ _); refine ⟨_, eq_dec _ _, ?_⟩) | ((with_reducible show ∃ _, neD _ _ = some _ ∧ _); refine ⟨_, ne_dec _ _, ?_⟩) | ((with_reducible show ∃ _, ltD _ _ = some _ ∧ _); refine ⟨_, lt_dec _ _, ?_⟩) | ((with_reducible show ∃ _, leD _ _ = some _ ∧ _); refine ⟨_, le_dec _ _, ?_⟩) | ((with_reducible show ∃ _, gtD _ _ = some _ ∧ _); refine ⟨_, gt_dec _ _, ?_⟩) | ((with_reducible show ∃ _, geD _ _ = some _ ∧ _); refine ⟨_, ge_dec _ _, ?_⟩) | ((with_reducible show ∃ _, subD _ _ = some _ ∧ _); refine ⟨_, sub_ii _ _, ?_⟩) | ((with_reducible show ∃ _, negD _ = some _ ∧ _); refine ⟨_, neg_i _, ?_⟩)
  | ((with_reducible show ∃ _, mulD _ _ = some _ ∧ _); refine ⟨_, mul_ii (by omega), ?_⟩) | ((with_reducible show ∃ _, modD _ _ = some _ ∧ _); refine ⟨_, mod_ii (by omega), ?_⟩) | ((with_reducible show ∃ _, divD _ _ = some _ ∧ _); refine ⟨_, div_ii (by omega) (by omega), ?_⟩)
  | ((with_reducible show ∃ _, mixE _ _ _ = some _ ∧ _); refine ⟨_, mix_nil rfl, ?_⟩)
  | ((with_reducible show _ < List.length _ ∧ _); refine ⟨of_decide_eq_true rfl, ?_⟩; (try simp only [List.set_cons_zero, List.set_cons_succ, O.fz, fzs_ints, fzs_purs, keepE_cons, keepE_nil, wipeE]))
  | ((with_reducible show (_ < List.length _ ∧ _) ∧ _); refine ⟨of_decide_eq_true rfl, ?_⟩; (try simp only [List.set_cons_zero, List.set_cons_succ, O.fz, fzs_ints, fzs_purs, keepE_cons, keepE_nil, wipeE]))
  | ((with_reducible show List.length _ ≤ 1000 ∧ _); refine ⟨of_decide_eq_true rfl, ?_⟩; (try simp only [List.set_cons_zero, List.set_cons_succ, O.fz, fzs_ints, fzs_purs, keepE_cons, keepE_nil, wipeE]))
  | ((with_reducible show flatO _ = true ∧ _); refine ⟨rfl, ?_⟩)
  | ((with_reducible show Ev (eaLate _ _) _ _); refine Ev_late rfl ?_)
  | with_reducible refine S_setIx ?_
  | ((with_reducible show EvS (sAugIx _ _ _ _) _ _ _ _ _); refine S_augIx rfl ?_)
  | ((with_reducible show EvS (sAug _ _ _) _ _ _ _ _); refine S_aug rfl ?_)
  | ((with_reducible show ∃ a b c, _ = D.int a ∧ _ ∧ _ ∧ _); refine ⟨_, _, _, rfl, rfl, rfl, ?_⟩; simp only [List.set_cons_zero, List.set_cons_succ, Int.toNat_ofNat, Int.reduceToNat])
  | ((with_reducible show ∃ a b c, _ = D.int a ∧ _ ∧ _ ∧ _); refine ⟨_, _, _, rfl, rfl, rfl, ?_⟩)
  | ((with_reducible show ∃ _, ixD _ _ = some _ ∧ _); refine ⟨_, rfl, ?_⟩)
  | ((with_reducible show ∃ _, lenD _ = some _ ∧ _); refine ⟨_, rfl, ?_⟩)
  | ((with_reducible show ∃ _, absD _ = some _ ∧ _); refine ⟨_, rfl, ?_⟩)
  | ((with_reducible show ∃ _, itemsD _ = some _ ∧ _); refine ⟨_, rfl, ?_⟩)
  | ((with_reducible show ∃ _, tupleD _ = some _ ∧ _); refine ⟨_, rfl, ?_⟩)
  | ((with_reducible show ∃ _, listD _ = some _ ∧ _); refine ⟨_, rfl, ?_⟩)
  | ((with_reducible show ∃ _, listL _ = some _ ∧ _); refine ⟨_, rfl, ?_⟩)
  | ((with_reducible show ∃ _, toIntD _ = some _ ∧ _); refine ⟨_, rfl, ?_⟩)
  | ((with_reducible show ∃ _, isD _ _ = some _ ∧ _); refine ⟨_, rfl, ?_⟩)
  | ((with_reducible show ∃ _, isNotD _ _ = some _ ∧ _); refine ⟨_, rfl, ?_⟩)
  | ((with_reducible show ∃ _, takeS _ _ = some _ ∧ _); refine ⟨_, rfl, ?_⟩)
  | ((with_reducible show ∃ _, fName _ _ _ = some _ ∧ _); refine ⟨_, rfl, ?_⟩; (try simp only [List.set_cons_zero, List.set_cons_succ]))
  | ((with_reducible show ∃ _, fTup _ _ _ _ = some _ ∧ _); refine ⟨_, rfl, ?_⟩; (try simp only [List.set_cons_zero, List.set_cons_succ]))
  | ((with_reducible show ∃ _, slD _ _ _ = some _ ∧ _); refine ⟨_, rfl, ?_⟩)
  | ((with_reducible show ∃ _, slL _ _ _ = some _ ∧ _); refine ⟨_, rfl, ?_⟩)
  | ((with_reducible show ∃ _, List.set _ _ _ = some _ ∧ _); refine ⟨_, rfl, ?_⟩)
  | ((with_reducible show ∃ _, getElem? _ _ = some _ ∧ _); refine ⟨_, rfl, ?_⟩)
  | ((with_reducible show ∃ _, rangeD1 [D.int (Nat.cast _)] = some _ ∧ _); refine ⟨_, range_nat (by omega), ?_⟩) | ((with_reducible show ∃ _, rangeD1 _ = some _ ∧ _); refine ⟨_, range_lit (by omega) (by omega), ?_⟩)
  | ((with_reducible show ∃ _, _ = D.int _ ∧ _); refine ⟨_, rfl, ?_⟩)
  | ((with_reducible show ∃ _, maxD [D.int _, D.int _] = some _ ∧ _); refine ⟨_, rfl, ?_⟩) | ((with_reducible show ∃ _, minD [D.int _, D.int _] = some _ ∧ _); refine ⟨_, rfl, ?_⟩)
  | ((with_reducible show ∃ _, truD _ = some _ ∧ _); refine ⟨_, rfl, ?_⟩)
  | ((with_reducible show ∃ _, _ = D.bl _ ∧ _); refine ⟨_, rfl, ?_⟩)
  | ((with_reducible show ∃ _, neD (.str _) (.str _) = some _ ∧ _); refine ⟨_, ne_str _, ?_⟩) | ((with_reducible show ∃ _, eqD (.str _) (.str _) = some _ ∧ _); refine ⟨_, eq_str _, ?_⟩))
local macro_rules | `(tactic| walk_at "e") => `(tactic| repeat walk_at "e1")
local macro_rules | `(tactic| walk_at "s") => `(tactic| repeat (first | with_reducible refine S_seq ?_ | walk_at "e1"))
local macro_rules | `(tactic| walk_at "n") => `(tactic| try simp only [List.set_cons_zero, List.set_cons_succ, O.fz, fzs_ints, fzs_purs, keepE_cons, keepE_nil, wipeE])
local macro_rules | `(tactic| walk_at "e1") => `(tactic| ((with_reducible show Ev (eCall f_law_take _ _) _ _); refine Ev_take rfl (by assumption) ?_; (try simp only [List.set_cons_zero, List.set_cons_succ])))
local macro_rules | `(tactic| walk_at "e1") => `(tactic| ((with_reducible show ∀ _ _, _ → _ → BagOk _ → _); intro r o' h1 h2 hb; (try simp only [List.set_cons_zero, List.set_cons_succ, O.fz])))
local macro_rules | `(tactic| walk_at "e1") => `(tactic| ((with_reducible show _ < _ ∧ _); refine ⟨by omega, ?_⟩))
local macro_rules | `(tactic| walk_at "e1") => `(tactic| ((with_reducible show Ev (eCall f_law_size _ _) _ _); refine Ev_size rfl (by assumption) ?_; (try simp only [List.set_cons_zero, List.set_cons_succ])))
local macro_rules | `(tactic| walk_at "e1") => `(tactic| ((with_reducible show ∃ _, lenD [D.lst (rowsD _)] = some _ ∧ _); refine ⟨_, rfl, ?_⟩; rw [rowsD_len]))
local macro_rules | `(tactic| walk_at "e1") => `(tactic| ((with_reducible show ∃ _, isaD _ = some _ ∧ _); refine ⟨_, rfl, ?_⟩))
local macro_rules | `(tactic| walk_at "e1") => `(tactic| ((with_reducible show ∃ _, rangeD1 [D.int (_ + 1)] = some _ ∧ _); refine ⟨_, range_succ' (by omega), ?_⟩))
local macro_rules | `(tactic| walk_at "e1") => `(tactic| ((with_reducible show ∃ _, rangeD1 [D.int (1 + _)] = some _ ∧ _); refine ⟨_, range_one_add (by omega) (by omega), ?_⟩))
local macro_rules | `(tactic| walk_at "e1") => `(tactic| ((with_reducible show EvS (sFrz _ _) _ _ _ _ _); refine S_frz rfl ?_; (try simp only [List.set_cons_zero, List.set_cons_succ, O.fz, fzs, fzs_ints, fzs_purs])))
local macro_rules | `(tactic| walk_at "e1") => `(tactic| first | with_reducible refine S_par2 ?_ | with_reducible refine S_par3 ?_)
local macro_rules | `(tactic| walk_at "e1") => `(tactic| ((with_reducible show ∃ o1 o2 : O, _ = [o1, o2] ∧ _); refine ⟨_, _, rfl, ?_⟩))
local macro_rules | `(tactic| walk_at "e1") => `(tactic| ((with_reducible show ∃ o1 o2 o3 : O, _ = [o1, o2, o3] ∧ _); refine ⟨_, _, _, rfl, ?_⟩))
local macro_rules | `(tactic| walk_at "e1") => `(tactic| ((with_reducible show (_ < List.length _ ∧ _ < List.length _ ∧ _ < List.length _) ∧ _); refine ⟨of_decide_eq_true rfl, ?_⟩; (try simp only [List.set_cons_zero, List.set_cons_succ, O.fz, fzs_ints, fzs_purs, keepE_cons, keepE_nil, wipeE])))
local macro_rules | `(tactic| walk_at "e1") => `(tactic| first
  | ((with_reducible show Ev (eMCallD _ _ _ _ _) _ _); refine Ev_mcallD (fun _ _ _ h => runB_nil h) ?_)
  | ((with_reducible show Ev (eMCallK _ _ _ _ _ _) _ _); refine Ev_mcallK (fun _ _ _ h => runB_nil h) ?_)
  | ((with_reducible show Ev (eCallK _ _ _) _ _); refine Ev_callK (fun _ _ _ h => runB_nil h) ?_)
  | with_reducible refine Ev_make ?_
  | ((with_reducible show ∃ _, fldD "Endless" "wide" (endD _ _) = some _ ∧ _); refine ⟨_, end_wide, ?_⟩)
  | ((with_reducible show ∃ _, fldD "Endless" "rows" (endD _ _) = some _ ∧ _); refine ⟨_, end_rows, ?_⟩)
  | ((with_reducible show ∃ _, fldD "Endless" "sums" (endD _ _) = some _ ∧ _); refine ⟨_, end_sums, ?_⟩)
  | ((with_reducible show isIns _ _ (endD _ _) = true ∧ _); refine ⟨rfl, ?_⟩)
  | ((with_reducible show ∃ _, divmodD [D.int _, D.int _] = some _ ∧ _); refine ⟨_, divmod_ii (by omega) (by omega), ?_⟩)
  | ((with_reducible show ∃ _, lenD [mapL _ _] = some _ ∧ _); refine ⟨_, mapL_len, ?_⟩)
  | ((with_reducible show ∃ _, itemsD (mapL _ _) = some _ ∧ _); refine ⟨_, mapL_items, ?_⟩)
  | ((with_reducible show (if isNon (D.int _) = true then _ else _)); rw [if_neg (show ¬ (isNon (D.int _) = true) from Bool.false_ne_true)])
  | ((with_reducible show (if isNon D.non = true then _ else _)); rw [if_pos (show isNon D.non = true from rfl)])
  | ((with_reducible show (if (!isNon (D.int _)) = true then _ else _)); rw [if_pos (show (!isNon (D.int _)) = true from rfl)])
  | ((with_reducible show (if (!isNon D.non) = true then _ else _)); rw [if_neg (show ¬ ((!isNon D.non) = true) from Bool.false_ne_true)])
  | ((with_reducible show (if isNon (mapL _ _) = true then _ else _)); rw [if_neg (show ¬ (isNon (mapL _ _) = true) from Bool.false_ne_true)])
  | ((with_reducible show (if isNon (jD none) = true then _ else _)); rw [if_pos (show isNon (jD none) = true from rfl)])
  | ((with_reducible show (if isNon (jD (some _)) = true then _ else _)); rw [if_neg (show ¬ (isNon (jD (some _)) = true) from Bool.false_ne_true)])
  | ((with_reducible show (if (!isNon (jD none)) = true then _ else _)); rw [if_neg (show ¬ ((!isNon (jD none)) = true) from Bool.false_ne_true)])
  | ((with_reducible show (if (!isNon (jD (some _))) = true then _ else _)); rw [if_pos (show (!isNon (jD (some _))) = true from rfl)])
  | with_reducible refine Ev_methT ?_)
local macro_rules | `(tactic| walk_at "e1") => `(tactic| first
  | ((with_reducible show EvS (sTupO _ _) _ _ _ _ _); refine S_tupO ?_)
  | ((with_reducible show Ev eDNew _ _); refine Ev_dnew ?_)
  | ((with_reducible show Ev (eMCallI _ _ _ _ false _ _) _ _); refine Ev_mcallI rfl (Ev_recvN ?_))
  | ((with_reducible show Ev (eMCallI _ _ _ _ true _ _) _ _); refine Ev_mcallI rfl (Ev_recvL ?_))
  | ((with_reducible show ∃ os : List O, O.tup _ = O.tup os ∧ _ ∧ _ ∧ _); refine ⟨_, rfl, rfl, of_decide_eq_true rfl, ?_⟩; simp only [setAll, List.set_cons_zero, List.set_cons_succ])
  | ((with_reducible show isIns _ _ (chD _ _ _ _ _ _ _) = true ∧ _); refine ⟨rfl, ?_⟩))
local macro_rules | `(tactic| walk_at "e1") => `(tactic| first
  | ((with_reducible show ∃ _, fldD "Chain" "firsts" (chD _ _ _ _ _ _ _) = some _ ∧ _); refine ⟨_, ch_firsts, ?_⟩)
  | ((with_reducible show ∃ _, fldD "Chain" "entries" (chD _ _ _ _ _ _ _) = some _ ∧ _); refine ⟨_, ch_entries, ?_⟩)
  | ((with_reducible show ∃ _, fldD "Chain" "rows" (chD _ _ _ _ _ _ _) = some _ ∧ _); refine ⟨_, ch_rows, ?_⟩)
  | ((with_reducible show ∃ _, fldD "Chain" "sums" (chD _ _ _ _ _ _ _) = some _ ∧ _); refine ⟨_, ch_sums, ?_⟩)
  | ((with_reducible show ∃ _, fldD "Chain" "wide" (chD _ _ _ _ _ _ _) = some _ ∧ _); refine ⟨_, ch_wide, ?_⟩))
/-- where a fact leads from, to, and what it adds -/
def endF (f : Fct) : Nat × Nat × Int := if f.1 = true then (f.2.1.1, f.2.1.2, f.2.2) else (f.2.1.2, f.2.1.1, -f.2.2)
/-- a fact agrees with running totals -/
def agF (S : Nat → Int) (f : Fct) : Prop := S (endF f).2.1 - S (endF f).1 ≤ (endF f).2.2
instance (S : Nat → Int) (f : Fct) : Decidable (agF S f) := by unfold agF; infer_instance
def inF (n : Nat) (f : Fct) : Prop := f.2.1.1 ≤ n ∧ f.2.1.2 ≤ n
end DL.Sh
set_option Elab.async false
set_option linter.all false
set_option maxRecDepth 100000
set_option maxHeartbeats 4000000
/-! Least distances by rounds over edges: the mathematics. -/
namespace DL.Sh
structure Edg where
  a : Nat
  b : Nat
  m : Int
  f : Fct
def upF {α : Type} (g : Nat → α) (i : Nat) (x : α) : Nat → α := fun v => if v = i then x else g v
theorem upF_at {α : Type} (g : Nat → α) (i : Nat) (x : α) : upF g i x i = x := if_pos rfl
theorem upF_ne {α : Type} {g : Nat → α} {i v : Nat} {x : α} (h : v ≠ i) : upF g i x v = g v := if_neg h
structure RSt where
  d : Nat → Option Int
  l : Nat → Option Edg
  c : Option Nat
/-- whether an edge betters a distance -/
def btr (s : RSt) (e : Edg) : Bool := match s.d e.a with
  | none => false
  | some x => match s.d e.b with
    | none => true
    | some y => decide (x + e.m < y)
def rlx (s : RSt) (e : Edg) : RSt := if btr s e = true then ⟨upF s.d e.b ((s.d e.a).map (· + e.m)), upF s.l e.b (some e), some e.b⟩ else s
def rndE (E : List Edg) (s : RSt) : RSt := E.foldl rlx ⟨s.d, s.l, none⟩
def runR (E : List Edg) : Nat → RSt → RSt
  | 0, s => s
  | k + 1, s => if (rndE E s).c = none then rndE E s else runR E k (rndE E s)
def iniR (o : Nat) : RSt := ⟨upF (fun _ => none) o (some 0), fun _ => none, none⟩
/-- walks from o by edges: their number, the last place, the length -/
inductive Wk (E : List Edg) (o : Nat) : Nat → Nat → Int → Prop
  | nil : Wk E o 0 o 0
  | snoc {k : Nat} {d : Int} {e : Edg} : Wk E o k e.a d → e ∈ E → Wk E o (k + 1) e.b (d + e.m)
def Feas (E : List Edg) (T : Nat → Int) : Prop := ∀ e ∈ E, T e.b ≤ T e.a + e.m
theorem Wk.pot {E : List Edg} {o k v : Nat} {d : Int} {T : Nat → Int} (hT : Feas E T) (h : Wk E o k v d) : T v ≤ T o + d := by
  induction h with
  | nil => omega
  | snoc _ he ih => have := hT _ he; omega
/-! pigeons -/
theorem pigeonE : ∀ (n : Nat) (f : Nat → Nat) (k : Nat), (∀ i, i ≤ k → f i < n) → n ≤ k → ∃ i j, i < j ∧ j ≤ k ∧ f i = f j
  | 0, f, k, h, _ => absurd (h 0 (Nat.zero_le _)) (by omega)
  | n + 1, f, k, h, hk => by
    rcases Classical.em (∃ i, i < k ∧ f i = f k) with ⟨i, h1, h2⟩ | hno
    · exact ⟨i, k, h1, Nat.le_refl _, h2⟩
    · obtain ⟨k', rfl⟩ : ∃ k', k = k' + 1 := ⟨k - 1, by omega⟩
      have hne : ∀ i, i ≤ k' → f i ≠ f (k' + 1) := fun i hi e => hno ⟨i, by omega, e⟩
      have hfk := h (k' + 1) (Nat.le_refl _)
      obtain ⟨i, j, h1, h2, h3⟩ := pigeonE n (fun i => if f i < f (k' + 1) then f i else f i - 1) k' (fun i hi => by
        have h1 := h i (by omega)
        have h2 := hne i hi
        show (if f i < f (k' + 1) then f i else f i - 1) < n
        split <;> omega) (by omega)
      refine ⟨i, j, h1, by omega, ?_⟩
      have a1 := hne i (by omega)
      have a2 := hne j h2
      have h3 : (if f i < f (k' + 1) then f i else f i - 1) = (if f j < f (k' + 1) then f j else f j - 1) := h3
      split at h3 <;> split at h3 <;> omega
theorem Wk.path {E : List Edg} {o k v : Nat} {d : Int} (h : Wk E o k v d) : ∃ (f : Nat → Nat) (g : Nat → Int), f 0 = o ∧ g 0 = 0 ∧ f k = v ∧ g k = d ∧ ∀ i, i < k → ∃ e ∈ E, e.a = f i ∧ e.b = f (i + 1) ∧ g (i + 1) = g i + e.m := by
  induction h with
  | nil => exact ⟨fun _ => o, fun _ => 0, rfl, rfl, rfl, rfl, fun i h => by omega⟩
  | @snoc k d e _ he ih =>
    obtain ⟨f, g, h1, h2, h3, h4, h5⟩ := ih
    refine ⟨fun i => if i ≤ k then f i else e.b, fun i => if i ≤ k then g i else d + e.m, by simp [h1], by simp [h2], by show (if k + 1 ≤ k then f (k + 1) else e.b) = e.b; rw [if_neg (by omega)], by show (if k + 1 ≤ k then g (k + 1) else d + e.m) = d + e.m; rw [if_neg (by omega)], fun i hi => ?_⟩
    rcases Nat.lt_or_ge i k with hlt | hge
    · obtain ⟨e', q1, q2, q3, q4⟩ := h5 i hlt
      refine ⟨e', q1, ?_, ?_, ?_⟩
      · show e'.a = if i ≤ k then f i else e.b
        rw [if_pos (by omega)]; exact q2
      · show e'.b = if i + 1 ≤ k then f (i + 1) else e.b
        rw [if_pos (by omega)]; exact q3
      · show (if i + 1 ≤ k then g (i + 1) else d + e.m) = (if i ≤ k then g i else d + e.m) + e'.m
        rw [if_pos (by omega), if_pos (by omega)]; exact q4
    · have : i = k := by omega
      subst this
      refine ⟨e, he, ?_, ?_, ?_⟩
      · show e.a = if i ≤ i then f i else e.b
        rw [if_pos (Nat.le_refl _), h3]
      · show e.b = if i + 1 ≤ i then f (i + 1) else e.b
        rw [if_neg (by omega)]
      · show (if i + 1 ≤ i then g (i + 1) else d + e.m) = (if i ≤ i then g i else d + e.m) + e.m
        rw [if_neg (by omega), if_pos (Nat.le_refl _), h4]
theorem Wk.of_path {E : List Edg} {o : Nat} {f : Nat → Nat} {g : Nat → Int} {i : Nat} {v : Nat} {d : Int} (h : Wk E o i v d) : ∀ (n j : Nat), f j = v → (∀ t, j ≤ t → t < j + n → ∃ e ∈ E, e.a = f t ∧ e.b = f (t + 1) ∧ g (t + 1) = g t + e.m) → Wk E o (i + n) (f (j + n)) (d + (g (j + n) - g j))
  | 0, j, hv, _ => by
    rw [Nat.add_zero, Nat.add_zero, hv, Int.sub_self, Int.add_zero]; exact h
  | n + 1, j, hv, hp => by
    have ih := Wk.of_path h n j hv fun t h1 h2 => hp t h1 (by omega)
    obtain ⟨e, q1, q2, q3, q4⟩ := hp (j + n) (by omega) (by omega)
    rw [← q2] at ih
    have := Wk.snoc ih q1
    rw [q3] at this
    have e1 : d + (g (j + n) - g j) + e.m = d + (g (j + (n + 1)) - g j) := by
      rw [show j + (n + 1) = j + n + 1 by omega, q4]; omega
    rw [e1] at this
    exact this
/-- a walk is no shorter than one of fewer edges than there are places -/
theorem Wk.cut {E : List Edg} {o n : Nat} {T : Nat → Int} (hT : Feas E T) (ho : o < n) (hE : ∀ e ∈ E, e.b < n) : ∀ (k v : Nat) (d : Int), Wk E o k v d → ∃ k' d', k' < n ∧ d' ≤ d ∧ Wk E o k' v d' := by
  intro k
  induction k using Nat.strongRecOn with
  | _ k ih =>
    intro v d h
    rcases Nat.lt_or_ge k n with hlt | hge
    · exact ⟨k, d, hlt, Int.le_refl _, h⟩
    · obtain ⟨f, g, h1, h2, h3, h4, h5⟩ := h.path
      have hf : ∀ i, i ≤ k → f i < n := fun i hi => by
        cases i with
        | zero => rw [h1]; exact ho
        | succ i => obtain ⟨e, q1, _, q3, _⟩ := h5 i (by omega); rw [← q3]; exact hE e q1
      obtain ⟨i, j, hij, hjk, hfe⟩ := pigeonE n f k hf hge
      have w1 : Wk E o (0 + i) (f (0 + i)) (0 + (g (0 + i) - g 0)) := Wk.of_path (f := f) (g := g) Wk.nil i 0 h1 fun t _ ht => h5 t (by omega)
      rw [Nat.zero_add, h2] at w1
      have w2 := Wk.of_path (f := f) (g := g) w1 (k - j) j hfe.symm fun t ht1 ht2 => h5 t (by omega)
      rw [show j + (k - j) = k by omega, h3, h4] at w2
      -- the round from i to j is not negative
      have hpot : T (f j) - T (f i) ≤ g j - g i := by
        have : ∀ m, i + m ≤ k → T (f (i + m)) - T (f i) ≤ g (i + m) - g i := by
          intro m
          induction m with
          | zero => intro _; simp
          | succ m ihm =>
            intro hm
            have := ihm (by omega)
            obtain ⟨e, q1, q2, q3, q4⟩ := h5 (i + m) (by omega)
            have := hT e q1
            rw [q2, q3] at this
            rw [show i + (m + 1) = i + m + 1 by omega, q4]
            omega
        have := this (j - i) (by omega)
        rw [show i + (j - i) = j by omega] at this
        exact this
      rw [hfe] at hpot
      obtain ⟨k', d', q1, q2, q3⟩ := ih (i + (k - j)) (by omega) v _ w2
      exact ⟨k', d', q1, by omega, q3⟩
/-! one step -/
theorem btr_some {s : RSt} {e : Edg} (h : btr s e = true) : ∃ x, s.d e.a = some x ∧ ∀ y, s.d e.b = some y → x + e.m < y := by
  unfold btr at h
  split at h
  · cases h
  · rename_i x hx
    refine ⟨x, hx, fun y hy => ?_⟩
    rw [hy] at h
    simpa using h
theorem btr_no {s : RSt} {e : Edg} (h : btr s e = false) {x : Int} (hx : s.d e.a = some x) : ∃ y, s.d e.b = some y ∧ y ≤ x + e.m := by
  unfold btr at h
  rw [hx] at h
  cases hy : s.d e.b with
  | none => rw [hy] at h; cases h
  | some y =>
    rw [hy] at h
    refine ⟨y, rfl, ?_⟩
    have : ¬ x + e.m < y := by simpa using h
    omega
/-- no distance grows -/
def dLe (d1 d2 : Nat → Option Int) : Prop := ∀ v x, d1 v = some x → ∃ y, d2 v = some y ∧ y ≤ x
theorem dLe.refl (d : Nat → Option Int) : dLe d d := fun v x h => ⟨x, h, Int.le_refl _⟩
theorem dLe.trans {a b c : Nat → Option Int} (h1 : dLe a b) (h2 : dLe b c) : dLe a c := fun v x h => by
  obtain ⟨y, h3, h4⟩ := h1 v x h
  obtain ⟨z, h5, h6⟩ := h2 v y h3
  exact ⟨z, h5, by omega⟩
theorem rlx_le (s : RSt) (e : Edg) : dLe s.d (rlx s e).d := by
  intro v x h
  unfold rlx
  split
  · rename_i hb
    obtain ⟨z, h1, h2⟩ := btr_some hb
    by_cases hv : v = e.b
    · subst hv
      refine ⟨z + e.m, ?_, by have := h2 x h; omega⟩
      show upF _ _ _ _ = _
      rw [upF_at, h1]; rfl
    · exact ⟨x, by show upF _ _ _ _ = _; rw [upF_ne hv]; exact h, Int.le_refl _⟩
  · exact ⟨x, h, Int.le_refl _⟩
theorem fold_le : ∀ (E : List Edg) (s : RSt), dLe s.d (E.foldl rlx s).d
  | [], s => dLe.refl _
  | e :: E, s => (rlx_le s e).trans (fold_le E (rlx s e))
theorem rlx_done (s : RSt) (e : Edg) {x : Int} (h : s.d e.a = some x) : ∃ y, (rlx s e).d e.b = some y ∧ y ≤ x + e.m := by
  unfold rlx
  by_cases hb : btr s e = true
  · rw [if_pos hb]
    refine ⟨x + e.m, ?_, Int.le_refl _⟩
    show upF _ _ _ _ = _
    rw [upF_at, h]; rfl
  · rw [if_neg hb]
    exact btr_no (by simpa using hb) h
theorem fold_done : ∀ (E : List Edg) (s : RSt) (e : Edg), e ∈ E → ∀ x, s.d e.a = some x → ∃ y, (E.foldl rlx s).d e.b = some y ∧ y ≤ x + e.m
  | e' :: E, s, e, h, x, hx => by
    rcases List.mem_cons.mp h with rfl | h
    · obtain ⟨y, h1, h2⟩ := rlx_done s e hx
      obtain ⟨z, h3, h4⟩ := fold_le E (rlx s e) _ _ h1
      exact ⟨z, h3, by omega⟩
    · obtain ⟨y, h1, h2⟩ := rlx_le s e' _ _ hx
      obtain ⟨z, h3, h4⟩ := fold_done E (rlx s e') e h y h1
      exact ⟨z, h3, by omega⟩
def CoverK (E : List Edg) (o k : Nat) (d : Nat → Option Int) : Prop := ∀ j v x, j ≤ k → Wk E o j v x → ∃ y, d v = some y ∧ y ≤ x
theorem rndE_cover {E : List Edg} {o k : Nat} {s : RSt} (h : CoverK E o k s.d) : CoverK E o (k + 1) (rndE E s).d := by
  intro j v x hj hw
  cases hw with
  | nil =>
    obtain ⟨y, h1, h2⟩ := h 0 o 0 (Nat.zero_le _) .nil
    obtain ⟨z, h3, h4⟩ := fold_le E ⟨s.d, s.l, none⟩ _ _ h1
    exact ⟨z, h3, by omega⟩
  | @snoc j d e hw he =>
    obtain ⟨y, h1, h2⟩ := h j e.a d (by omega) hw
    obtain ⟨z, h3, h4⟩ := fold_done E ⟨s.d, s.l, none⟩ e he y h1
    exact ⟨z, h3, by omega⟩
theorem ini_cover (E : List Edg) (o : Nat) : CoverK E o 0 (iniR o).d := by
  intro j v x hj hw
  obtain rfl : j = 0 := by omega
  cases hw
  exact ⟨0, by show upF (fun _ => none) o (some 0) o = some 0; rw [upF_at], Int.le_refl _⟩
/-- where nothing was changed, nothing can be bettered -/
theorem fold_c : ∀ (E : List Edg) (s : RSt), (E.foldl rlx s).c = none → s.c = none ∧ E.foldl rlx s = s ∧ ∀ e ∈ E, btr s e = false
  | [], s, h => ⟨h, rfl, fun e h => nomatch h⟩
  | e :: E, s, h => by
    obtain ⟨h1, h2, h3⟩ := fold_c E (rlx s e) h
    by_cases hb : btr s e = true
    · have : (rlx s e).c = some e.b := by unfold rlx; rw [if_pos hb]
      rw [this] at h1; cases h1
    · have hr : rlx s e = s := by unfold rlx; rw [if_neg hb]
      rw [hr] at h1 h2 h3
      refine ⟨h1, by rw [List.foldl_cons, hr]; exact h2, fun e' he => ?_⟩
      rcases List.mem_cons.mp he with rfl | he
      · simpa using hb
      · exact h3 e' he
theorem btr_off {E : List Edg} : ∀ (es : List Edg) (s : RSt), (∀ e ∈ es, btr s e = false) → es.foldl rlx s = s
  | [], s, _ => rfl
  | e :: es, s, h => by
    have hr : rlx s e = s := by unfold rlx; rw [if_neg (by rw [h e (List.mem_cons_self)]; exact Bool.false_ne_true)]
    rw [List.foldl_cons, hr]
    exact btr_off (E := E) es s fun e' he => h e' (List.mem_cons_of_mem _ he)
/-! what holds throughout -/
/-- the last edges lead back from a place to the origin -/
inductive Rch (o : Nat) (l : Nat → Option Edg) : Nat → Nat → Prop
  | base : Rch o l 0 o
  | step {k v : Nat} {e : Edg} : l v = some e → Rch o l k e.a → Rch o l (k + 1) v
/-- u lies on the way back from v; the lengths on it -/
inductive Anc (l : Nat → Option Edg) (u : Nat) : Nat → Int → Prop
  | here : Anc l u u 0
  | step {v : Nat} {e : Edg} {L : Int} : l v = some e → Anc l u e.a L → Anc l u v (L + e.m)
structure InvR (E : List Edg) (o : Nat) (s : RSt) : Prop where
  sound : ∀ v x, s.d v = some x → ∃ k, Wk E o k v x
  orig : s.d o = some 0
  orl : s.l o = none
  last : ∀ v e, s.l v = some e → e ∈ E ∧ e.b = v ∧ ∃ x y, s.d e.a = some x ∧ s.d v = some y ∧ x + e.m ≤ y
  tree : ∀ v x, s.d v = some x → ∃ k, Rch o s.l k v
theorem ini_inv (E : List Edg) (o : Nat) : InvR E o (iniR o) where
  sound := fun v x h => by
    by_cases hv : v = o
    · subst hv
      have h : upF (fun _ => none) v (some 0) v = some x := h
      rw [upF_at] at h
      cases h
      exact ⟨0, .nil⟩
    · have h : upF (fun _ => none) o (some 0) v = some x := h
      rw [upF_ne hv] at h
      cases h
  orig := by show upF (fun _ => none) o (some 0) o = some 0; rw [upF_at]
  orl := rfl
  last := fun v e h => nomatch h
  tree := fun v x h => by
    by_cases hv : v = o
    · subst hv; exact ⟨0, .base⟩
    · have h : upF (fun _ => none) o (some 0) v = some x := h
      rw [upF_ne hv] at h
      cases h
theorem Anc.le {E : List Edg} {o : Nat} {s : RSt} {T : Nat → Int} (hT : Feas E T) (h : InvR E o s) {u v : Nat} {L : Int} (ha : Anc s.l u v L) : T v ≤ T u + L ∧ ∀ y x, s.d v = some y → s.d u = some x → x + L ≤ y := by
  induction ha with
  | here => exact ⟨by omega, fun y x h1 h2 => by rw [h1] at h2; cases h2; omega⟩
  | @step v e L hl _ ih =>
    obtain ⟨h1, h2, x', y', h3, h4, h5⟩ := h.last v e hl
    have hf := hT e h1
    rw [h2] at hf
    refine ⟨by have := ih.1; omega, fun y x hy hx => ?_⟩
    have := ih.2 x' x h3 hx
    rw [hy] at h4
    cases h4
    omega
theorem Anc.has {E : List Edg} {o : Nat} {s : RSt} (h : InvR E o s) {u v : Nat} {L : Int} (ha : Anc s.l u v L) : (∃ y, s.d v = some y) → ∃ y, s.d u = some y := by
  induction ha with
  | here => exact fun h => h
  | step hl _ ih =>
    intro _
    obtain ⟨_, _, x', y', h3, _, _⟩ := h.last _ _ hl
    exact ih ⟨x', h3⟩
theorem rlx_inv {E : List Edg} {o : Nat} {T : Nat → Int} (hT : Feas E T) {s : RSt} {e : Edg} (he : e ∈ E) (h : InvR E o s) : InvR E o (rlx s e) := by
  unfold rlx
  by_cases hb : btr s e = true
  · rw [if_pos hb]
    obtain ⟨x, hx, hlt⟩ := btr_some hb
    have hTe := hT e he
    obtain ⟨kx, wx⟩ := h.sound _ _ hx
    have hpx := wx.pot hT
    have hbo : e.b ≠ o := fun z => by
      have := hlt 0 (by rw [z]; exact h.orig)
      rw [z] at hTe
      omega
    have hab : e.a ≠ e.b := fun z => by
      have := hlt x (by rw [← z]; exact hx)
      rw [z] at hTe
      omega
    have hd : ∀ v, v ≠ e.b → upF s.d e.b ((s.d e.a).map (· + e.m)) v = s.d v := fun v hv => upF_ne hv
    have hdb : upF s.d e.b ((s.d e.a).map (· + e.m)) e.b = some (x + e.m) := by rw [upF_at, hx]; rfl
    -- the way back from a does not meet b
    have hno : ∀ L, ¬ Anc s.l e.b e.a L := fun L hL => by
      have h1 := hL.le hT h
      have hbs : ∃ y, s.d e.b = some y := hL.has h ⟨x, hx⟩
      obtain ⟨y, hy⟩ := hbs
      have h2 := h1.2 x y hx hy
      have := hlt y hy
      omega
    have keep : ∀ {k v : Nat}, Rch o s.l k v → (∀ L, ¬ Anc s.l e.b v L) → Rch o (upF s.l e.b (some e)) k v := by
      intro k v hr
      induction hr with
      | base => exact fun _ => .base
      | @step k v e' hl _ ih =>
        intro hn
        have hv : v ≠ e.b := fun z => hn 0 (by rw [z]; exact .here)
        exact .step (by rw [upF_ne hv]; exact hl) (ih fun L hL => hn _ (.step hl hL))
    obtain ⟨ka, ra⟩ := h.tree _ _ hx
    have ra' := keep ra hno
    have all : ∀ {k v : Nat}, Rch o s.l k v → ∃ k', Rch o (upF s.l e.b (some e)) k' v := by
      intro k v hr
      induction hr with
      | base => exact ⟨0, .base⟩
      | @step k v e' hl _ ih =>
        by_cases hv : v = e.b
        · subst hv
          exact ⟨ka + 1, .step (by rw [upF_at]) ra'⟩
        · obtain ⟨k', r⟩ := ih
          exact ⟨k' + 1, .step (by rw [upF_ne hv]; exact hl) r⟩
    exact {
      sound := fun v y hy => by
        by_cases hv : v = e.b
        · subst hv
          have hy : upF s.d e.b ((s.d e.a).map (· + e.m)) e.b = some y := hy
          rw [hdb] at hy
          cases hy
          exact ⟨kx + 1, .snoc wx he⟩
        · have hy : upF s.d e.b ((s.d e.a).map (· + e.m)) v = some y := hy
          rw [hd v hv] at hy
          exact h.sound v y hy
      orig := by show upF s.d e.b _ o = _; rw [hd o (fun z => hbo z.symm)]; exact h.orig
      orl := by show upF s.l e.b _ o = _; rw [upF_ne (fun z => hbo z.symm)]; exact h.orl
      last := fun v e' hl => by
        have hl : upF s.l e.b (some e) v = some e' := hl
        show e' ∈ E ∧ e'.b = v ∧ ∃ x' y, upF s.d e.b ((s.d e.a).map (· + e.m)) e'.a = some x' ∧ upF s.d e.b ((s.d e.a).map (· + e.m)) v = some y ∧ x' + e'.m ≤ y
        by_cases hv : v = e.b
        · subst hv
          rw [upF_at] at hl
          cases hl
          exact ⟨he, rfl, x, x + e.m, by rw [hd _ hab]; exact hx, hdb, Int.le_refl _⟩
        · rw [upF_ne hv] at hl
          obtain ⟨h1, h2, x', y', h3, h4, h5⟩ := h.last v e' hl
          refine ⟨h1, h2, ?_⟩
          by_cases ha : e'.a = e.b
          · have := hlt x' (by rw [← ha]; exact h3)
            exact ⟨x + e.m, y', by rw [ha]; exact hdb, by rw [hd v hv]; exact h4, by omega⟩
          · exact ⟨x', y', by rw [hd _ ha]; exact h3, by rw [hd v hv]; exact h4, h5⟩
      tree := fun v y hy => by
        by_cases hv : v = e.b
        · subst hv
          exact ⟨ka + 1, .step (by show upF s.l e.b _ e.b = _; rw [upF_at]) ra'⟩
        · have hy : upF s.d e.b ((s.d e.a).map (· + e.m)) v = some y := hy
          rw [hd v hv] at hy
          obtain ⟨k, r⟩ := h.tree v y hy
          exact all r }
  · rw [if_neg hb]; exact h
theorem fold_inv {E : List Edg} {o : Nat} {T : Nat → Int} (hT : Feas E T) : ∀ (es : List Edg) (s : RSt), (∀ e ∈ es, e ∈ E) → InvR E o s → InvR E o (es.foldl rlx s)
  | [], s, _, h => h
  | e :: es, s, hs, h => fold_inv hT es (rlx s e) (fun e' he => hs e' (List.mem_cons_of_mem _ he)) (rlx_inv hT (hs e (List.mem_cons_self)) h)
theorem rndE_inv {E : List Edg} {o : Nat} {T : Nat → Int} (hT : Feas E T) {s : RSt} (h : InvR E o s) : InvR E o (rndE E s) :=
  fold_inv hT E ⟨s.d, s.l, none⟩ (fun _ h => h) ⟨h.sound, h.orig, h.orl, h.last, h.tree⟩
/-- it settles -/
theorem runR_settles {E : List Edg} {o n : Nat} {T : Nat → Int} (hT : Feas E T) (ho : o < n) (hE : ∀ e ∈ E, e.b < n) : ∀ (k j : Nat) (s : RSt), k + j = n + 1 → 2 ≤ k + 0 ∨ True → InvR E o s → CoverK E o j s.d → 1 ≤ k → (runR E k s).c = none
  | 0, j, s, _, _, _, _, h0 => absurd h0 (by omega)
  | k + 1, j, s, hk, _, hi, hc, _ => by
    unfold runR
    by_cases hz : (rndE E s).c = none
    · rw [if_pos hz]; exact hz
    · rw [if_neg hz]
      have hlt : j + 1 < n := by
        rcases Nat.lt_or_ge (j + 1) n with q | q
        · exact q
        · exfalso
          apply hz
          have : ∀ e ∈ E, btr ⟨s.d, s.l, none⟩ e = false := fun e he => by
            by_cases hb : btr ⟨s.d, s.l, none⟩ e = true
            · exfalso
              obtain ⟨x, hx, hl⟩ := btr_some hb
              obtain ⟨kx, wx⟩ := hi.sound _ _ hx
              obtain ⟨k', d', q1, q2, q3⟩ := (Wk.snoc wx he).cut hT ho hE
              obtain ⟨y, h1, h2⟩ := hc k' e.b d' (by omega) q3
              have := hl y h1
              omega
            · simpa using hb
          unfold rndE
          rw [btr_off (E := E) E _ this]
      exact runR_settles hT ho hE k (j + 1) (rndE E s) (by omega) (.inr trivial) (rndE_inv hT hi) (rndE_cover hc) (by omega)
theorem runR_inv {E : List Edg} {o : Nat} {T : Nat → Int} (hT : Feas E T) : ∀ (k : Nat) (s : RSt), InvR E o s → InvR E o (runR E k s)
  | 0, s, h => h
  | k + 1, s, h => by
    unfold runR
    split
    · exact rndE_inv hT h
    · exact runR_inv hT k _ (rndE_inv hT h)
theorem runR_fix {E : List Edg} : ∀ (k : Nat) (s : RSt), 1 ≤ k → (runR E k s).c = none → ∀ e ∈ E, btr (runR E k s) e = false
  | 0, s, h, _ => absurd h (by omega)
  | k + 1, s, _, hc => by
    unfold runR at hc ⊢
    by_cases hz : (rndE E s).c = none
    · rw [if_pos hz] at hc ⊢
      obtain ⟨_, h2, h3⟩ := fold_c E _ hz
      intro e he
      have : rndE E s = ⟨s.d, s.l, none⟩ := h2
      rw [this]
      exact h3 e he
    · rw [if_neg hz] at hc ⊢
      cases k with
      | zero => exact absurd hc hz
      | succ k => exact runR_fix (k + 1) _ (by omega) hc
/-- the least distances from o -/
def relF (E : List Edg) (n o : Nat) : RSt := runR E (n + 1) (iniR o)
structure Dist (E : List Edg) (o : Nat) (s : RSt) : Prop extends InvR E o s where
  set : s.c = none
  clos : ∀ e ∈ E, ∀ x, s.d e.a = some x → ∃ y, s.d e.b = some y ∧ y ≤ x + e.m
theorem relF_dist {E : List Edg} {o n : Nat} {T : Nat → Int} (hT : Feas E T) (ho : o < n) (hE : ∀ e ∈ E, e.b < n) : Dist E o (relF E n o) where
  toInvR := runR_inv hT _ _ (ini_inv E o)
  set := runR_settles hT ho hE (n + 1) 0 (iniR o) (by omega) (.inr trivial) (ini_inv E o) (ini_cover E o) (by omega)
  clos := fun e he x hx => btr_no (runR_fix (n + 1) (iniR o) (by omega) (runR_settles hT ho hE (n + 1) 0 (iniR o) (by omega) (.inr trivial) (ini_inv E o) (ini_cover E o) (by omega)) e he) hx
/-- the way back is shorter than there are places -/
theorem Rch.path {o : Nat} {l : Nat → Option Edg} {k v : Nat} (h : Rch o l k v) : ∃ f : Nat → Nat, f 0 = v ∧ f k = o ∧ ∀ i, i < k → ∃ e, l (f i) = some e ∧ e.a = f (i + 1) := by
  induction h with
  | base => exact ⟨fun _ => o, rfl, rfl, fun i h => by omega⟩
  | @step k v e hl _ ih =>
    obtain ⟨f, h1, h2, h3⟩ := ih
    refine ⟨fun i => match i with | 0 => v | j + 1 => f j, rfl, h2, fun i hi => ?_⟩
    cases i with
    | zero => exact ⟨e, hl, h1.symm⟩
    | succ j => exact h3 j (by omega)
end DL.Sh
set_option Elab.async false
set_option linter.all false
set_option maxRecDepth 100000
set_option maxHeartbeats 4000000
/-! The totals that agree with a sighting. -/
namespace DL.Sh
open PySem PySem.Spec PyProof.Rows L2
/-- one step backwards -/
local macro_rules | `(tactic| walk_at "e1") => `(tactic| first
  | with_reducible refine S_next ?_ | with_reducible refine S_ret ?_ | with_reducible refine S_drop ?_ | with_reducible refine S_if ?_ | with_reducible refine S_for ?_
  | with_reducible refine Ev_C ?_ | with_reducible refine Ev_fz ?_ | with_reducible refine Ev_pur ?_ | with_reducible refine Ev_op2 ?_ | with_reducible refine Ev_top2 ?_ | with_reducible refine Ev_op1 ?_ | with_reducible refine Ev_val ?_
  | with_reducible refine Ev_tand ?_ | with_reducible refine Ev_tor ?_ | with_reducible refine Ev_tnot ?_ | with_reducible refine Ev_and ?_ | with_reducible refine Ev_or ?_ | with_reducible refine Ev_not ?_ | with_reducible refine Ev_if ?_
  | with_reducible refine Ev_anil ?_ | with_reducible refine Ev_acons ?_ | with_reducible refine Ev_eanil ?_ | with_reducible refine Ev_eacons ?_ | with_reducible refine Ev_call ?_ | with_reducible refine Ev_onone ?_ | with_reducible refine Ev_osome ?_
  | with_reducible refine Ev_sl ?_ | with_reducible refine Ev_esl ?_ | with_reducible refine Ev_eop2 ?_ | with_reducible refine Ev_eargs ?_ | with_reducible refine Ev_iseq ?_ | with_reducible refine Ev_iargs ?_ | with_reducible refine Ev_yes ?_
  | with_reducible refine Ev_chain ?_ | with_reducible refine Ev_tchain ?_
  | (with_reducible refine Ev_tbor ?_; simp only [frzE, Option.map_some, Option.map_none, O.fz, fzs, fzs_ints, fzs_purs])
  | (with_reducible refine Ev_bor ?_; simp only [frzE, Option.map_some, Option.map_none, O.fz, fzs, fzs_ints, fzs_purs])
  | ((with_reducible show (if (!true) = true then _ else _)); rw [if_neg (by decide)]) | ((with_reducible show (if (!false) = true then _ else _)); rw [if_pos (by decide)])
  | with_reducible refine Ev_call1 ?_ | ((with_reducible show (if true = true then _ else _)); rw [if_pos rfl]) | ((with_reducible show (if false = true then _ else _)); rw [if_neg Bool.false_ne_true])
  | ((with_reducible show Ev (dVar _) _ _); refine Ev_var rfl ?_)
  | ((with_reducible show Ev (eMove _) _ _); refine Ev_move rfl ?_; (try simp only [List.set_cons_zero, List.set_cons_succ]))
  | ((with_reducible refine S_set ?_))
  | (with_reducible refine S_asg ?_)
  | ((with_reducible refine Ev_tup ?_)) | ((with_reducible refine Ev_lst ?_)) | ((with_reducible refine Ev_elst ?_)) | ((with_reducible refine Ev_etup ?_))
  | ((with_reducible show ∃ _, powD _ _ = some _ ∧ _); refine ⟨_, pow18, ?_⟩) | ((with_reducible show ∃ _, powD _ _ = some _ ∧ _); refine ⟨_, rfl, ?_⟩; simp only [Int.reduceToNat, Int.reducePow]) | ((with_reducible show ∃ _, addD _ _ = some _ ∧ _); refine ⟨_, add_ii _ _, ?_⟩) | ((with_reducible show ∃ _, eqD _ _ = some _ ∧ _); refine ⟨_, eq_dec _ _, ?_⟩) | ((with_reducible show ∃ _, neD _ _ = some _ ∧ _); refine ⟨_, ne_dec _ _, ?_⟩) | ((with_reducible show ∃ _, ltD _ _ = some _ ∧ _); refine ⟨_, lt_dec _ _, ?_⟩) | ((with_reducible show ∃ _, leD _ _ = some _ ∧ _); refine ⟨_, le_dec _ _, ?_⟩) | ((with_reducible show ∃ _, gtD _ _ = some _ ∧ _); refine ⟨_, gt_dec _ _, ?_⟩) | ((with_reducible show ∃ _, geD _ _ = some _ ∧ _); refine ⟨_, ge_dec _ _, ?_⟩) | ((with_reducible show ∃ _, subD _ _ = some _ ∧ _); refine ⟨_, sub_ii _ _, ?_⟩) | ((with_reducible show ∃ _, negD _ = some _ ∧ _); refine ⟨_, neg_i _, ?_⟩)
  | ((with_reducible show ∃ _, mulD _ _ = some _ ∧ _); refine ⟨_, mul_ii (by omega), ?_⟩) | ((with_reducible show ∃ _, modD _ _ = some _ ∧ _); refine ⟨_, mod_ii (by omega), ?_⟩) | ((with_reducible show ∃ _, divD _ _ = some _ ∧ _); refine ⟨_, div_ii (by omega) (by omega), ?_⟩)
  | ((with_reducible show ∃ _, mixE _ _ _ = some _ ∧ _); refine ⟨_, mix_nil rfl, ?_⟩)
  | ((with_reducible show _ < List.length _ ∧ _); refine ⟨of_decide_eq_true rfl, ?_⟩; (try simp only [List.set_cons_zero, List.set_cons_succ, O.fz, fzs_ints, fzs_purs, keepE_cons, keepE_nil, wipeE]))
  | ((with_reducible show (_ < List.length _ ∧ _) ∧ _); refine ⟨of_decide_eq_true rfl, ?_⟩; (try simp only [List.set_cons_zero, List.set_cons_succ, O.fz, fzs_ints, fzs_purs, keepE_cons, keepE_nil, wipeE]))
  | ((with_reducible show List.length _ ≤ 1000 ∧ _); refine ⟨of_decide_eq_true rfl, ?_⟩; (try simp only [List.set_cons_zero, List.set_cons_succ, O.fz, fzs_ints, fzs_purs, keepE_cons, keepE_nil, wipeE]))
  | ((with_reducible show flatO _ = true ∧ _); refine ⟨rfl, ?_⟩)
  | ((with_reducible show Ev (eaLate _ _) _ _); refine Ev_late rfl ?_)
  | with_reducible refine S_setIx ?_
  | ((with_reducible show EvS (sAugIx _ _ _ _) _ _ _ _ _); refine S_augIx rfl ?_)
  | ((with_reducible show EvS (sAug _ _ _) _ _ _ _ _); refine S_aug rfl ?_)
  | ((with_reducible show ∃ a b c, _ = D.int a ∧ _ ∧ _ ∧ _); refine ⟨_, _, _, rfl, rfl, rfl, ?_⟩; simp only [List.set_cons_zero, List.set_cons_succ, Int.toNat_ofNat, Int.reduceToNat])
  | ((with_reducible show ∃ a b c, _ = D.int a ∧ _ ∧ _ ∧ _); refine ⟨_, _, _, rfl, rfl, rfl, ?_⟩)
  | ((with_reducible show ∃ _, ixD _ _ = some _ ∧ _); refine ⟨_, rfl, ?_⟩)
  | ((with_reducible show ∃ _, lenD _ = some _ ∧ _); refine ⟨_, rfl, ?_⟩)
  | ((with_reducible show ∃ _, absD _ = some _ ∧ _); refine ⟨_, rfl, ?_⟩)
  | ((with_reducible show ∃ _, itemsD _ = some _ ∧ _); refine ⟨_, rfl, ?_⟩)
  | ((with_reducible show ∃ _, tupleD _ = some _ ∧ _); refine ⟨_, rfl, ?_⟩)
  | ((with_reducible show ∃ _, listD _ = some _ ∧ _); refine ⟨_, rfl, ?_⟩)
  | ((with_reducible show ∃ _, listL _ = some _ ∧ _); refine ⟨_, rfl, ?_⟩)
  | ((with_reducible show ∃ _, toIntD _ = some _ ∧ _); refine ⟨_, rfl, ?_⟩)
  | ((with_reducible show ∃ _, isD _ _ = some _ ∧ _); refine ⟨_, rfl, ?_⟩)
  | ((with_reducible show ∃ _, isNotD _ _ = some _ ∧ _); refine ⟨_, rfl, ?_⟩)
  | ((with_reducible show ∃ _, takeS _ _ = some _ ∧ _); refine ⟨_, rfl, ?_⟩)
  | ((with_reducible show ∃ _, fName _ _ _ = some _ ∧ _); refine ⟨_, rfl, ?_⟩; (try simp only [List.set_cons_zero, List.set_cons_succ]))
  | ((with_reducible show ∃ _, fTup _ _ _ _ = some _ ∧ _); refine ⟨_, rfl, ?_⟩; (try simp only [List.set_cons_zero, List.set_cons_succ]))
  | ((with_reducible show ∃ _, slD _ _ _ = some _ ∧ _); refine ⟨_, rfl, ?_⟩)
  | ((with_reducible show ∃ _, slL _ _ _ = some _ ∧ _); refine ⟨_, rfl, ?_⟩)
  | ((with_reducible show ∃ _, List.set _ _ _ = some _ ∧ _); refine ⟨_, rfl, ?_⟩)
  | ((with_reducible show ∃ _, getElem? _ _ = some _ ∧ _); refine ⟨_, rfl, ?_⟩)
  | ((with_reducible show ∃ _, rangeD1 [D.int (Nat.cast _)] = some _ ∧ _); refine ⟨_, range_nat (by omega), ?_⟩) | ((with_reducible show ∃ _, rangeD1 _ = some _ ∧ _); refine ⟨_, range_lit (by omega) (by omega), ?_⟩)
  | ((with_reducible show ∃ _, _ = D.int _ ∧ _); refine ⟨_, rfl, ?_⟩)
  | ((with_reducible show ∃ _, maxD [D.int _, D.int _] = some _ ∧ _); refine ⟨_, rfl, ?_⟩) | ((with_reducible show ∃ _, minD [D.int _, D.int _] = some _ ∧ _); refine ⟨_, rfl, ?_⟩)
  | ((with_reducible show ∃ _, truD _ = some _ ∧ _); refine ⟨_, rfl, ?_⟩)
  | ((with_reducible show ∃ _, _ = D.bl _ ∧ _); refine ⟨_, rfl, ?_⟩)
  | ((with_reducible show ∃ _, neD (.str _) (.str _) = some _ ∧ _); refine ⟨_, ne_str _, ?_⟩) | ((with_reducible show ∃ _, eqD (.str _) (.str _) = some _ ∧ _); refine ⟨_, eq_str _, ?_⟩))
local macro_rules | `(tactic| walk_at "e") => `(tactic| repeat walk_at "e1")
local macro_rules | `(tactic| walk_at "s") => `(tactic| repeat (first | with_reducible refine S_seq ?_ | walk_at "e1"))
local macro_rules | `(tactic| walk_at "n") => `(tactic| try simp only [List.set_cons_zero, List.set_cons_succ, O.fz, fzs_ints, fzs_purs, keepE_cons, keepE_nil, wipeE])
local macro_rules | `(tactic| walk_at "e1") => `(tactic| ((with_reducible show Ev (eCall f_law_take _ _) _ _); refine Ev_take rfl (by assumption) ?_; (try simp only [List.set_cons_zero, List.set_cons_succ])))
local macro_rules | `(tactic| walk_at "e1") => `(tactic| ((with_reducible show ∀ _ _, _ → _ → BagOk _ → _); intro r o' h1 h2 hb; (try simp only [List.set_cons_zero, List.set_cons_succ, O.fz])))
local macro_rules | `(tactic| walk_at "e1") => `(tactic| ((with_reducible show _ < _ ∧ _); refine ⟨by omega, ?_⟩))
local macro_rules | `(tactic| walk_at "e1") => `(tactic| ((with_reducible show Ev (eCall f_law_size _ _) _ _); refine Ev_size rfl (by assumption) ?_; (try simp only [List.set_cons_zero, List.set_cons_succ])))
local macro_rules | `(tactic| walk_at "e1") => `(tactic| ((with_reducible show ∃ _, lenD [D.lst (rowsD _)] = some _ ∧ _); refine ⟨_, rfl, ?_⟩; rw [rowsD_len]))
local macro_rules | `(tactic| walk_at "e1") => `(tactic| ((with_reducible show ∃ _, isaD _ = some _ ∧ _); refine ⟨_, rfl, ?_⟩))
local macro_rules | `(tactic| walk_at "e1") => `(tactic| ((with_reducible show ∃ _, rangeD1 [D.int (_ + 1)] = some _ ∧ _); refine ⟨_, range_succ' (by omega), ?_⟩))
local macro_rules | `(tactic| walk_at "e1") => `(tactic| ((with_reducible show ∃ _, rangeD1 [D.int (1 + _)] = some _ ∧ _); refine ⟨_, range_one_add (by omega) (by omega), ?_⟩))
local macro_rules | `(tactic| walk_at "e1") => `(tactic| ((with_reducible show EvS (sFrz _ _) _ _ _ _ _); refine S_frz rfl ?_; (try simp only [List.set_cons_zero, List.set_cons_succ, O.fz, fzs, fzs_ints, fzs_purs])))
local macro_rules | `(tactic| walk_at "e1") => `(tactic| first | with_reducible refine S_par2 ?_ | with_reducible refine S_par3 ?_)
local macro_rules | `(tactic| walk_at "e1") => `(tactic| ((with_reducible show ∃ o1 o2 : O, _ = [o1, o2] ∧ _); refine ⟨_, _, rfl, ?_⟩))
local macro_rules | `(tactic| walk_at "e1") => `(tactic| ((with_reducible show ∃ o1 o2 o3 : O, _ = [o1, o2, o3] ∧ _); refine ⟨_, _, _, rfl, ?_⟩))
local macro_rules | `(tactic| walk_at "e1") => `(tactic| ((with_reducible show (_ < List.length _ ∧ _ < List.length _ ∧ _ < List.length _) ∧ _); refine ⟨of_decide_eq_true rfl, ?_⟩; (try simp only [List.set_cons_zero, List.set_cons_succ, O.fz, fzs_ints, fzs_purs, keepE_cons, keepE_nil, wipeE])))
local macro_rules | `(tactic| walk_at "e1") => `(tactic| first
  | ((with_reducible show Ev (eMCallD _ _ _ _ _) _ _); refine Ev_mcallD (fun _ _ _ h => runB_nil h) ?_)
  | ((with_reducible show Ev (eMCallK _ _ _ _ _ _) _ _); refine Ev_mcallK (fun _ _ _ h => runB_nil h) ?_)
  | ((with_reducible show Ev (eCallK _ _ _) _ _); refine Ev_callK (fun _ _ _ h => runB_nil h) ?_)
  | with_reducible refine Ev_make ?_
  | ((with_reducible show ∃ _, fldD "Endless" "wide" (endD _ _) = some _ ∧ _); refine ⟨_, end_wide, ?_⟩)
  | ((with_reducible show ∃ _, fldD "Endless" "rows" (endD _ _) = some _ ∧ _); refine ⟨_, end_rows, ?_⟩)
  | ((with_reducible show ∃ _, fldD "Endless" "sums" (endD _ _) = some _ ∧ _); refine ⟨_, end_sums, ?_⟩)
  | ((with_reducible show isIns _ _ (endD _ _) = true ∧ _); refine ⟨rfl, ?_⟩)
  | ((with_reducible show ∃ _, divmodD [D.int _, D.int _] = some _ ∧ _); refine ⟨_, divmod_ii (by omega) (by omega), ?_⟩)
  | ((with_reducible show ∃ _, lenD [mapL _ _] = some _ ∧ _); refine ⟨_, mapL_len, ?_⟩)
  | ((with_reducible show ∃ _, itemsD (mapL _ _) = some _ ∧ _); refine ⟨_, mapL_items, ?_⟩)
  | ((with_reducible show (if isNon (D.int _) = true then _ else _)); rw [if_neg (show ¬ (isNon (D.int _) = true) from Bool.false_ne_true)])
  | ((with_reducible show (if isNon D.non = true then _ else _)); rw [if_pos (show isNon D.non = true from rfl)])
  | ((with_reducible show (if (!isNon (D.int _)) = true then _ else _)); rw [if_pos (show (!isNon (D.int _)) = true from rfl)])
  | ((with_reducible show (if (!isNon D.non) = true then _ else _)); rw [if_neg (show ¬ ((!isNon D.non) = true) from Bool.false_ne_true)])
  | ((with_reducible show (if isNon (mapL _ _) = true then _ else _)); rw [if_neg (show ¬ (isNon (mapL _ _) = true) from Bool.false_ne_true)])
  | ((with_reducible show (if isNon (jD none) = true then _ else _)); rw [if_pos (show isNon (jD none) = true from rfl)])
  | ((with_reducible show (if isNon (jD (some _)) = true then _ else _)); rw [if_neg (show ¬ (isNon (jD (some _)) = true) from Bool.false_ne_true)])
  | ((with_reducible show (if (!isNon (jD none)) = true then _ else _)); rw [if_neg (show ¬ ((!isNon (jD none)) = true) from Bool.false_ne_true)])
  | ((with_reducible show (if (!isNon (jD (some _))) = true then _ else _)); rw [if_pos (show (!isNon (jD (some _))) = true from rfl)])
  | with_reducible refine Ev_methT ?_)
local macro_rules | `(tactic| walk_at "e1") => `(tactic| first
  | ((with_reducible show EvS (sTupO _ _) _ _ _ _ _); refine S_tupO ?_)
  | ((with_reducible show Ev eDNew _ _); refine Ev_dnew ?_)
  | ((with_reducible show Ev (eMCallI _ _ _ _ false _ _) _ _); refine Ev_mcallI rfl (Ev_recvN ?_))
  | ((with_reducible show Ev (eMCallI _ _ _ _ true _ _) _ _); refine Ev_mcallI rfl (Ev_recvL ?_))
  | ((with_reducible show ∃ os : List O, O.tup _ = O.tup os ∧ _ ∧ _ ∧ _); refine ⟨_, rfl, rfl, of_decide_eq_true rfl, ?_⟩; simp only [setAll, List.set_cons_zero, List.set_cons_succ])
  | ((with_reducible show isIns _ _ (chD _ _ _ _ _ _ _) = true ∧ _); refine ⟨rfl, ?_⟩))
local macro_rules | `(tactic| walk_at "e1") => `(tactic| first
  | ((with_reducible show ∃ _, fldD "Chain" "firsts" (chD _ _ _ _ _ _ _) = some _ ∧ _); refine ⟨_, ch_firsts, ?_⟩)
  | ((with_reducible show ∃ _, fldD "Chain" "entries" (chD _ _ _ _ _ _ _) = some _ ∧ _); refine ⟨_, ch_entries, ?_⟩)
  | ((with_reducible show ∃ _, fldD "Chain" "rows" (chD _ _ _ _ _ _ _) = some _ ∧ _); refine ⟨_, ch_rows, ?_⟩)
  | ((with_reducible show ∃ _, fldD "Chain" "sums" (chD _ _ _ _ _ _ _) = some _ ∧ _); refine ⟨_, ch_sums, ?_⟩)
  | ((with_reducible show ∃ _, fldD "Chain" "wide" (chD _ _ _ _ _ _ _) = some _ ∧ _); refine ⟨_, ch_wide, ?_⟩))
def OkE (n : Nat) (E : List Edg) : Prop := ∀ e ∈ E, e.a < n ∧ e.b < n
/-! the least totals -/
def fE (l : List Fct) : List Edg := l.map fun f => ⟨(endF f).1, (endF f).2.1, (endF f).2.2, f⟩
def bE (l : List Fct) : List Edg := (fE l).map fun e => ⟨e.b, e.a, e.m, e.f⟩
theorem fE_mem {l : List Fct} {e : Edg} (h : e ∈ fE l) : ∃ f ∈ l, e = ⟨(endF f).1, (endF f).2.1, (endF f).2.2, f⟩ := by
  obtain ⟨f, h1, rfl⟩ := List.mem_map.mp h
  exact ⟨f, h1, rfl⟩
theorem bE_mem {l : List Fct} {e : Edg} (h : e ∈ bE l) : ∃ f ∈ l, e = ⟨(endF f).2.1, (endF f).1, (endF f).2.2, f⟩ := by
  obtain ⟨e', h1, rfl⟩ := List.mem_map.mp h
  obtain ⟨f, h2, rfl⟩ := fE_mem h1
  exact ⟨f, h2, rfl⟩
theorem fE_in {l : List Fct} {f : Fct} (h : f ∈ l) : (⟨(endF f).1, (endF f).2.1, (endF f).2.2, f⟩ : Edg) ∈ fE l := List.mem_map.mpr ⟨f, h, rfl⟩
theorem bE_in {l : List Fct} {f : Fct} (h : f ∈ l) : (⟨(endF f).2.1, (endF f).1, (endF f).2.2, f⟩ : Edg) ∈ bE l := List.mem_map.mpr ⟨_, fE_in h, rfl⟩
/-- facts over the places 0 .. N with which some totals agree; each entry has a least size -/
structure Sys (A : List Fct) (N : Nat) (S : Nat → Int) : Prop where
  pl : ∀ f ∈ A, inF N f
  ch : ∀ k, k < N → ∃ f ∈ A, (endF f).1 = k + 1 ∧ (endF f).2.1 = k ∧ (endF f).2.2 ≤ 0
  ag : ∀ f ∈ A, agF S f
theorem endF_in {N : Nat} {f : Fct} (h : inF N f) : (endF f).1 < N + 1 ∧ (endF f).2.1 < N + 1 := by
  obtain ⟨h1, h2⟩ := h
  unfold endF
  split
  · exact ⟨Nat.lt_succ_of_le h1, Nat.lt_succ_of_le h2⟩
  · exact ⟨Nat.lt_succ_of_le h2, Nat.lt_succ_of_le h1⟩
theorem Sys.okb {A : List Fct} {N : Nat} (h : ∀ f ∈ A, inF N f) : OkE (N + 1) (bE A) := fun e he => by
  obtain ⟨f, hf, rfl⟩ := bE_mem he
  exact ⟨(endF_in (h f hf)).2, (endF_in (h f hf)).1⟩
theorem feas_b {A : List Fct} {S : Nat → Int} (h : ∀ f ∈ A, agF S f) : Feas (bE A) (fun v => -S v) := fun e he => by
  obtain ⟨f, hf, rfl⟩ := bE_mem he
  have := h f hf
  unfold agF at this
  show -S (endF f).1 ≤ -S (endF f).2.1 + (endF f).2.2
  omega
def basF (A : List Fct) (N : Nat) : Nat → Int := fun v => -((relF (bE A) (N + 1) 0).d v).getD 0
section
variable {A : List Fct} {N : Nat} {S : Nat → Int}
theorem Sys.db (h : Sys A N S) : Dist (bE A) 0 (relF (bE A) (N + 1) 0) := relF_dist (feas_b h.ag) (Nat.succ_pos _) fun e he => (Sys.okb h.pl e he).2
theorem Sys.all (h : Sys A N S) : ∀ v, v ≤ N → (relF (bE A) (N + 1) 0).d v = some (-(basF A N v)) := by
  have hd := h.db
  have : ∀ v, v ≤ N → ∃ x, (relF (bE A) (N + 1) 0).d v = some x := by
    intro v
    induction v with
    | zero => intro _; exact ⟨0, hd.orig⟩
    | succ v ih =>
      intro hv
      obtain ⟨x, hx⟩ := ih (by omega)
      obtain ⟨f, hf, h1, h2, _⟩ := h.ch v (by omega)
      obtain ⟨y, hy, _⟩ := hd.clos _ (bE_in hf) x (by show _ = some x; rw [h2]; exact hx)
      have hy : (relF (bE A) (N + 1) 0).d (endF f).1 = some y := hy
      rw [h1] at hy
      exact ⟨y, hy⟩
  intro v hv
  obtain ⟨x, hx⟩ := this v hv
  unfold basF
  rw [hx]
  simp
theorem Sys.with (h : Sys A N S) {S' : Nat → Int} (h' : ∀ f ∈ A, agF S' f) : Sys A N S' := ⟨h.pl, h.ch, h'⟩
theorem Sys.mono (h : Sys A N S) : ∀ {a b : Nat}, a ≤ b → b ≤ N → S a ≤ S b := by
  intro a b hab hb
  induction b with
  | zero => have : a = 0 := by omega
            rw [this]; exact Int.le_refl _
  | succ b ih =>
    rcases Nat.eq_or_lt_of_le hab with e | e
    · rw [e]; exact Int.le_refl _
    · obtain ⟨f, hf, h1, h2, h3⟩ := h.ch b (by omega)
      have := h.ag f hf
      unfold agF at this
      rw [h1, h2] at this
      have := ih (by omega) (by omega)
      omega
end
/-! sizes -/
end DL.Sh
set_option Elab.async false
set_option linter.all false
set_option maxRecDepth 100000
set_option maxHeartbeats 4000000
/-! Totals with a given value; what agrees shows the same sighting. -/
namespace DL.Sh
open PySem PySem.Spec PyProof.Rows L2
/-- one step backwards -/
local macro_rules | `(tactic| walk_at "e1") => `(tactic| first
  | with_reducible refine S_next ?_ | with_reducible refine S_ret ?_ | with_reducible refine S_drop ?_ | with_reducible refine S_if ?_ | with_reducible refine S_for ?_
  | with_reducible refine Ev_C ?_ | with_reducible refine Ev_fz ?_ | with_reducible refine Ev_pur ?_ | with_reducible refine Ev_op2 ?_ | with_reducible refine Ev_top2 ?_ | with_reducible refine Ev_op1 ?_ | with_reducible refine Ev_val ?_
  | with_reducible refine Ev_tand ?_ | with_reducible refine Ev_tor ?_ | with_reducible refine Ev_tnot ?_ | with_reducible refine Ev_and ?_ | with_reducible refine Ev_or ?_ | with_reducible refine Ev_not ?_ | with_reducible refine Ev_if ?_
  | with_reducible refine Ev_anil ?_ | with_reducible refine Ev_acons ?_ | with_reducible refine Ev_eanil ?_ | with_reducible refine Ev_eacons ?_ | with_reducible refine Ev_call ?_ | with_reducible refine Ev_onone ?_ | with_reducible refine Ev_osome ?_
  | with_reducible refine Ev_sl ?_ | with_reducible refine Ev_esl ?_ | with_reducible refine Ev_eop2 ?_ | with_reducible refine Ev_eargs ?_ | with_reducible refine Ev_iseq ?_ | with_reducible refine Ev_iargs ?_ | with_reducible refine Ev_yes ?_
  | with_reducible refine Ev_chain ?_ | with_reducible refine Ev_tchain ?_
  | (with_reducible refine Ev_tbor ?_; simp only [frzE, Option.map_some, Option.map_none, O.fz, fzs, fzs_ints, fzs_purs])
  | (with_reducible refine Ev_bor ?_; simp only [frzE, Option.map_some, Option.map_none, O.fz, fzs, fzs_ints, fzs_purs])
  | ((with_reducible show (if (!true) = true then _ else _)); rw [if_neg (by decide)]) | ((with_reducible show (if (!false) = true then _ else _)); rw [if_pos (by decide)])
  | with_reducible refine Ev_call1 ?_ | ((with_reducible show (if true = true then _ else _)); rw [if_pos rfl]) | ((with_reducible show (if false = true then _ else _)); rw [if_neg Bool.false_ne_true])
  | ((with_reducible show Ev (dVar _) _ _); refine Ev_var rfl ?_)
  | ((with_reducible show Ev (eMove _) _ _); refine Ev_move rfl ?_; (try simp only [List.set_cons_zero, List.set_cons_succ]))
  | ((with_reducible refine S_set ?_))
  | (with_reducible refine S_asg ?_)
  | ((with_reducible refine Ev_tup ?_)) | ((with_reducible refine Ev_lst ?_)) | ((with_reducible refine Ev_elst ?_)) | ((with_reducible refine Ev_etup ?_))
  | ((with_reducible show ∃ _, powD _ _ = some _ ∧ _); refine ⟨_, pow18, ?_⟩) | ((with_reducible show ∃ _, powD _ _ = some _ ∧ _); refine ⟨_, rfl, ?_⟩; simp only [Int.reduceToNat, Int.reducePow]) | ((with_reducible show ∃ _, addD _ _ = some _ ∧ _); refine ⟨_, add_ii _ _, ?_⟩) | ((with_reducible show ∃ _, eqD _ _ = some _ ∧ _); refine ⟨_, eq_dec _ _, ?_⟩) | ((with_reducible show ∃ _, neD _ _ = some _ ∧ _); refine ⟨_, ne_dec _ _, ?_⟩) | ((with_reducible show ∃ _, ltD _ _ = some _ ∧ _); refine ⟨_, lt_dec _ _, ?_⟩) | ((with_reducible show ∃ _, leD _ _ = some _ ∧ _); refine ⟨_, le_dec _ _, ?_⟩) | ((with_reducible show ∃ _, gtD _ _ = some _ ∧ _); refine ⟨_, gt_dec _ _, ?_⟩) | ((with_reducible show ∃ _, geD _ _ = some _ ∧ _); refine ⟨_, ge_dec _ _, ?_⟩) | ((with_reducible show ∃ _, subD _ _ = some _ ∧ _); refine ⟨_, sub_ii _ _, ?_⟩) | ((with_reducible show ∃ _, negD _ = some _ ∧ _); refine ⟨_, neg_i _, ?_⟩)
  | ((with_reducible show ∃ _, mulD _ _ = some _ ∧ _); refine ⟨_, mul_ii (by omega), ?_⟩) | ((with_reducible show ∃ _, modD _ _ = some _ ∧ _); refine ⟨_, mod_ii (by omega), ?_⟩) | ((with_reducible show ∃ _, divD _ _ = some _ ∧ _); refine ⟨_, div_ii (by omega) (by omega), ?_⟩)
  | ((with_reducible show ∃ _, mixE _ _ _ = some _ ∧ _); refine ⟨_, mix_nil rfl, ?_⟩)
  | ((with_reducible show _ < List.length _ ∧ _); refine ⟨of_decide_eq_true rfl, ?_⟩; (try simp only [List.set_cons_zero, List.set_cons_succ, O.fz, fzs_ints, fzs_purs, keepE_cons, keepE_nil, wipeE]))
  | ((with_reducible show (_ < List.length _ ∧ _) ∧ _); refine ⟨of_decide_eq_true rfl, ?_⟩; (try simp only [List.set_cons_zero, List.set_cons_succ, O.fz, fzs_ints, fzs_purs, keepE_cons, keepE_nil, wipeE]))
  | ((with_reducible show List.length _ ≤ 1000 ∧ _); refine ⟨of_decide_eq_true rfl, ?_⟩; (try simp only [List.set_cons_zero, List.set_cons_succ, O.fz, fzs_ints, fzs_purs, keepE_cons, keepE_nil, wipeE]))
  | ((with_reducible show flatO _ = true ∧ _); refine ⟨rfl, ?_⟩)
  | ((with_reducible show Ev (eaLate _ _) _ _); refine Ev_late rfl ?_)
  | with_reducible refine S_setIx ?_
  | ((with_reducible show EvS (sAugIx _ _ _ _) _ _ _ _ _); refine S_augIx rfl ?_)
  | ((with_reducible show EvS (sAug _ _ _) _ _ _ _ _); refine S_aug rfl ?_)
  | ((with_reducible show ∃ a b c, _ = D.int a ∧ _ ∧ _ ∧ _); refine ⟨_, _, _, rfl, rfl, rfl, ?_⟩; simp only [List.set_cons_zero, List.set_cons_succ, Int.toNat_ofNat, Int.reduceToNat])
  | ((with_reducible show ∃ a b c, _ = D.int a ∧ _ ∧ _ ∧ _); refine ⟨_, _, _, rfl, rfl, rfl, ?_⟩)
  | ((with_reducible show ∃ _, ixD _ _ = some _ ∧ _); refine ⟨_, rfl, ?_⟩)
  | ((with_reducible show ∃ _, lenD _ = some _ ∧ _); refine ⟨_, rfl, ?_⟩)
  | ((with_reducible show ∃ _, absD _ = some _ ∧ _); refine ⟨_, rfl, ?_⟩)
  | ((with_reducible show ∃ _, itemsD _ = some _ ∧ _); refine ⟨_, rfl, ?_⟩)
  | ((with_reducible show ∃ _, tupleD _ = some _ ∧ _); refine ⟨_, rfl, ?_⟩)
  | ((with_reducible show ∃ _, listD _ = some _ ∧ _); refine ⟨_, rfl, ?_⟩)
  | ((with_reducible show ∃ _, listL _ = some _ ∧ _); refine ⟨_, rfl, ?_⟩)
  | ((with_reducible show ∃ _, toIntD _ = some _ ∧ _); refine ⟨_, rfl, ?_⟩)
  | ((with_reducible show ∃ _, isD _ _ = some _ ∧ _); refine ⟨_, rfl, ?_⟩)
  | ((with_reducible show ∃ _, isNotD _ _ = some _ ∧ _); refine ⟨_, rfl, ?_⟩)
  | ((with_reducible show ∃ _, takeS _ _ = some _ ∧ _); refine ⟨_, rfl, ?_⟩)
  | ((with_reducible show ∃ _, fName _ _ _ = some _ ∧ _); refine ⟨_, rfl, ?_⟩; (try simp only [List.set_cons_zero, List.set_cons_succ]))
  | ((with_reducible show ∃ _, fTup _ _ _ _ = some _ ∧ _); refine ⟨_, rfl, ?_⟩; (try simp only [List.set_cons_zero, List.set_cons_succ]))
  | ((with_reducible show ∃ _, slD _ _ _ = some _ ∧ _); refine ⟨_, rfl, ?_⟩)
  | ((with_reducible show ∃ _, slL _ _ _ = some _ ∧ _); refine ⟨_, rfl, ?_⟩)
  | ((with_reducible show ∃ _, List.set _ _ _ = some _ ∧ _); refine ⟨_, rfl, ?_⟩)
  | ((with_reducible show ∃ _, getElem? _ _ = some _ ∧ _); refine ⟨_, rfl, ?_⟩)
  | ((with_reducible show ∃ _, rangeD1 [D.int (Nat.cast _)] = some _ ∧ _); refine ⟨_, range_nat (by omega), ?_⟩) | ((with_reducible show ∃ _, rangeD1 _ = some _ ∧ _); refine ⟨_, range_lit (by omega) (by omega), ?_⟩)
  | ((with_reducible show ∃ _, _ = D.int _ ∧ _); refine ⟨_, rfl, ?_⟩)
  | ((with_reducible show ∃ _, maxD [D.int _, D.int _] = some _ ∧ _); refine ⟨_, rfl, ?_⟩) | ((with_reducible show ∃ _, minD [D.int _, D.int _] = some _ ∧ _); refine ⟨_, rfl, ?_⟩)
  | ((with_reducible show ∃ _, truD _ = some _ ∧ _); refine ⟨_, rfl, ?_⟩)
  | ((with_reducible show ∃ _, _ = D.bl _ ∧ _); refine ⟨_, rfl, ?_⟩)
  | ((with_reducible show ∃ _, neD (.str _) (.str _) = some _ ∧ _); refine ⟨_, ne_str _, ?_⟩) | ((with_reducible show ∃ _, eqD (.str _) (.str _) = some _ ∧ _); refine ⟨_, eq_str _, ?_⟩))
local macro_rules | `(tactic| walk_at "e") => `(tactic| repeat walk_at "e1")
local macro_rules | `(tactic| walk_at "s") => `(tactic| repeat (first | with_reducible refine S_seq ?_ | walk_at "e1"))
local macro_rules | `(tactic| walk_at "n") => `(tactic| try simp only [List.set_cons_zero, List.set_cons_succ, O.fz, fzs_ints, fzs_purs, keepE_cons, keepE_nil, wipeE])
local macro_rules | `(tactic| walk_at "e1") => `(tactic| ((with_reducible show Ev (eCall f_law_take _ _) _ _); refine Ev_take rfl (by assumption) ?_; (try simp only [List.set_cons_zero, List.set_cons_succ])))
local macro_rules | `(tactic| walk_at "e1") => `(tactic| ((with_reducible show ∀ _ _, _ → _ → BagOk _ → _); intro r o' h1 h2 hb; (try simp only [List.set_cons_zero, List.set_cons_succ, O.fz])))
local macro_rules | `(tactic| walk_at "e1") => `(tactic| ((with_reducible show _ < _ ∧ _); refine ⟨by omega, ?_⟩))
local macro_rules | `(tactic| walk_at "e1") => `(tactic| ((with_reducible show Ev (eCall f_law_size _ _) _ _); refine Ev_size rfl (by assumption) ?_; (try simp only [List.set_cons_zero, List.set_cons_succ])))
local macro_rules | `(tactic| walk_at "e1") => `(tactic| ((with_reducible show ∃ _, lenD [D.lst (rowsD _)] = some _ ∧ _); refine ⟨_, rfl, ?_⟩; rw [rowsD_len]))
local macro_rules | `(tactic| walk_at "e1") => `(tactic| ((with_reducible show ∃ _, isaD _ = some _ ∧ _); refine ⟨_, rfl, ?_⟩))
local macro_rules | `(tactic| walk_at "e1") => `(tactic| ((with_reducible show ∃ _, rangeD1 [D.int (_ + 1)] = some _ ∧ _); refine ⟨_, range_succ' (by omega), ?_⟩))
local macro_rules | `(tactic| walk_at "e1") => `(tactic| ((with_reducible show ∃ _, rangeD1 [D.int (1 + _)] = some _ ∧ _); refine ⟨_, range_one_add (by omega) (by omega), ?_⟩))
local macro_rules | `(tactic| walk_at "e1") => `(tactic| ((with_reducible show EvS (sFrz _ _) _ _ _ _ _); refine S_frz rfl ?_; (try simp only [List.set_cons_zero, List.set_cons_succ, O.fz, fzs, fzs_ints, fzs_purs])))
local macro_rules | `(tactic| walk_at "e1") => `(tactic| first | with_reducible refine S_par2 ?_ | with_reducible refine S_par3 ?_)
local macro_rules | `(tactic| walk_at "e1") => `(tactic| ((with_reducible show ∃ o1 o2 : O, _ = [o1, o2] ∧ _); refine ⟨_, _, rfl, ?_⟩))
local macro_rules | `(tactic| walk_at "e1") => `(tactic| ((with_reducible show ∃ o1 o2 o3 : O, _ = [o1, o2, o3] ∧ _); refine ⟨_, _, _, rfl, ?_⟩))
local macro_rules | `(tactic| walk_at "e1") => `(tactic| ((with_reducible show (_ < List.length _ ∧ _ < List.length _ ∧ _ < List.length _) ∧ _); refine ⟨of_decide_eq_true rfl, ?_⟩; (try simp only [List.set_cons_zero, List.set_cons_succ, O.fz, fzs_ints, fzs_purs, keepE_cons, keepE_nil, wipeE])))
local macro_rules | `(tactic| walk_at "e1") => `(tactic| first
  | ((with_reducible show Ev (eMCallD _ _ _ _ _) _ _); refine Ev_mcallD (fun _ _ _ h => runB_nil h) ?_)
  | ((with_reducible show Ev (eMCallK _ _ _ _ _ _) _ _); refine Ev_mcallK (fun _ _ _ h => runB_nil h) ?_)
  | ((with_reducible show Ev (eCallK _ _ _) _ _); refine Ev_callK (fun _ _ _ h => runB_nil h) ?_)
  | with_reducible refine Ev_make ?_
  | ((with_reducible show ∃ _, fldD "Endless" "wide" (endD _ _) = some _ ∧ _); refine ⟨_, end_wide, ?_⟩)
  | ((with_reducible show ∃ _, fldD "Endless" "rows" (endD _ _) = some _ ∧ _); refine ⟨_, end_rows, ?_⟩)
  | ((with_reducible show ∃ _, fldD "Endless" "sums" (endD _ _) = some _ ∧ _); refine ⟨_, end_sums, ?_⟩)
  | ((with_reducible show isIns _ _ (endD _ _) = true ∧ _); refine ⟨rfl, ?_⟩)
  | ((with_reducible show ∃ _, divmodD [D.int _, D.int _] = some _ ∧ _); refine ⟨_, divmod_ii (by omega) (by omega), ?_⟩)
  | ((with_reducible show ∃ _, lenD [mapL _ _] = some _ ∧ _); refine ⟨_, mapL_len, ?_⟩)
  | ((with_reducible show ∃ _, itemsD (mapL _ _) = some _ ∧ _); refine ⟨_, mapL_items, ?_⟩)
  | ((with_reducible show (if isNon (D.int _) = true then _ else _)); rw [if_neg (show ¬ (isNon (D.int _) = true) from Bool.false_ne_true)])
  | ((with_reducible show (if isNon D.non = true then _ else _)); rw [if_pos (show isNon D.non = true from rfl)])
  | ((with_reducible show (if (!isNon (D.int _)) = true then _ else _)); rw [if_pos (show (!isNon (D.int _)) = true from rfl)])
  | ((with_reducible show (if (!isNon D.non) = true then _ else _)); rw [if_neg (show ¬ ((!isNon D.non) = true) from Bool.false_ne_true)])
  | ((with_reducible show (if isNon (mapL _ _) = true then _ else _)); rw [if_neg (show ¬ (isNon (mapL _ _) = true) from Bool.false_ne_true)])
  | ((with_reducible show (if isNon (jD none) = true then _ else _)); rw [if_pos (show isNon (jD none) = true from rfl)])
  | ((with_reducible show (if isNon (jD (some _)) = true then _ else _)); rw [if_neg (show ¬ (isNon (jD (some _)) = true) from Bool.false_ne_true)])
  | ((with_reducible show (if (!isNon (jD none)) = true then _ else _)); rw [if_neg (show ¬ ((!isNon (jD none)) = true) from Bool.false_ne_true)])
  | ((with_reducible show (if (!isNon (jD (some _))) = true then _ else _)); rw [if_pos (show (!isNon (jD (some _))) = true from rfl)])
  | with_reducible refine Ev_methT ?_)
local macro_rules | `(tactic| walk_at "e1") => `(tactic| first
  | ((with_reducible show EvS (sTupO _ _) _ _ _ _ _); refine S_tupO ?_)
  | ((with_reducible show Ev eDNew _ _); refine Ev_dnew ?_)
  | ((with_reducible show Ev (eMCallI _ _ _ _ false _ _) _ _); refine Ev_mcallI rfl (Ev_recvN ?_))
  | ((with_reducible show Ev (eMCallI _ _ _ _ true _ _) _ _); refine Ev_mcallI rfl (Ev_recvL ?_))
  | ((with_reducible show ∃ os : List O, O.tup _ = O.tup os ∧ _ ∧ _ ∧ _); refine ⟨_, rfl, rfl, of_decide_eq_true rfl, ?_⟩; simp only [setAll, List.set_cons_zero, List.set_cons_succ])
  | ((with_reducible show isIns _ _ (chD _ _ _ _ _ _ _) = true ∧ _); refine ⟨rfl, ?_⟩))
local macro_rules | `(tactic| walk_at "e1") => `(tactic| first
  | ((with_reducible show ∃ _, fldD "Chain" "firsts" (chD _ _ _ _ _ _ _) = some _ ∧ _); refine ⟨_, ch_firsts, ?_⟩)
  | ((with_reducible show ∃ _, fldD "Chain" "entries" (chD _ _ _ _ _ _ _) = some _ ∧ _); refine ⟨_, ch_entries, ?_⟩)
  | ((with_reducible show ∃ _, fldD "Chain" "rows" (chD _ _ _ _ _ _ _) = some _ ∧ _); refine ⟨_, ch_rows, ?_⟩)
  | ((with_reducible show ∃ _, fldD "Chain" "sums" (chD _ _ _ _ _ _ _) = some _ ∧ _); refine ⟨_, ch_sums, ?_⟩)
  | ((with_reducible show ∃ _, fldD "Chain" "wide" (chD _ _ _ _ _ _ _) = some _ ∧ _); refine ⟨_, ch_wide, ?_⟩))
end DL.Sh
set_option Elab.async false
set_option linter.all false
set_option maxRecDepth 100000
set_option maxHeartbeats 4000000
/-! Where no totals agree: circles; every total between. -/
namespace DL.Sh
open PySem PySem.Spec PyProof.Rows L2
/-- one step backwards -/
local macro_rules | `(tactic| walk_at "e1") => `(tactic| first
  | with_reducible refine S_next ?_ | with_reducible refine S_ret ?_ | with_reducible refine S_drop ?_ | with_reducible refine S_if ?_ | with_reducible refine S_for ?_
  | with_reducible refine Ev_C ?_ | with_reducible refine Ev_fz ?_ | with_reducible refine Ev_pur ?_ | with_reducible refine Ev_op2 ?_ | with_reducible refine Ev_top2 ?_ | with_reducible refine Ev_op1 ?_ | with_reducible refine Ev_val ?_
  | with_reducible refine Ev_tand ?_ | with_reducible refine Ev_tor ?_ | with_reducible refine Ev_tnot ?_ | with_reducible refine Ev_and ?_ | with_reducible refine Ev_or ?_ | with_reducible refine Ev_not ?_ | with_reducible refine Ev_if ?_
  | with_reducible refine Ev_anil ?_ | with_reducible refine Ev_acons ?_ | with_reducible refine Ev_eanil ?_ | with_reducible refine Ev_eacons ?_ | with_reducible refine Ev_call ?_ | with_reducible refine Ev_onone ?_ | with_reducible refine Ev_osome ?_
  | with_reducible refine Ev_sl ?_ | with_reducible refine Ev_esl ?_ | with_reducible refine Ev_eop2 ?_ | with_reducible refine Ev_eargs ?_ | with_reducible refine Ev_iseq ?_ | with_reducible refine Ev_iargs ?_ | with_reducible refine Ev_yes ?_
  | with_reducible refine Ev_chain ?_ | with_reducible refine Ev_tchain ?_
  | (with_reducible refine Ev_tbor ?_; simp only [frzE, Option.map_some, Option.map_none, O.fz, fzs, fzs_ints, fzs_purs])
  | (with_reducible refine Ev_bor ?_; simp only [frzE, Option.map_some, Option.map_none, O.fz, fzs, fzs_ints, fzs_purs])
  | ((with_reducible show (if (!true) = true then _ else _)); rw [if_neg (by decide)]) | ((with_reducible show (if (!false) = true then _ else _)); rw [if_pos (by decide)])
  | with_reducible refine Ev_call1 ?_ | ((with_reducible show (if true = true then _ else _)); rw [if_pos rfl]) | ((with_reducible show (if false = true then _ else _)); rw [if_neg Bool.false_ne_true])
  | ((with_reducible show Ev (dVar _) _ _); refine Ev_var rfl ?_)
  | ((with_reducible show Ev (eMove _) _ _); refine Ev_move rfl ?_; (try simp only [List.set_cons_zero, List.set_cons_succ]))
  | ((with_reducible refine S_set ?_))
  | (with_reducible refine S_asg ?_)
  | ((with_reducible refine Ev_tup ?_)) | ((with_reducible refine Ev_lst ?_)) | ((with_reducible refine Ev_elst ?_)) | ((with_reducible refine Ev_etup ?_))
  | ((with_reducible show ∃ _, powD _ _ = some _ ∧ _); refine ⟨_, pow18, ?_⟩) | ((with_reducible show ∃ _, powD _ _ = some _ ∧ _); refine ⟨_, rfl, ?_⟩; simp only [Int.reduceToNat, Int.reducePow]) | ((with_reducible show ∃ _, addD _ _ = some _ ∧ _); refine ⟨_, add_ii _ _, ?_⟩) | ((with_reducible show ∃ _, eqD _ _ = some _ ∧ _); refine ⟨_, eq_dec _ _, ?_⟩) | ((with_reducible show ∃ _, neD _ _ = some _ ∧ _); refine ⟨_, ne_dec _ _, ?_⟩) | ((with_reducible show ∃ _, ltD _ _ = some _ ∧ _); refine ⟨_, lt_dec _ _, ?_⟩) | ((with_reducible show ∃ _, leD _ _ = some _ ∧ _); refine ⟨_, le_dec _ _, ?_⟩) | ((with_reducible show ∃ _, gtD _ _ = some _ ∧ _); refine ⟨_, gt_dec _ _, ?_⟩) | ((with_reducible show ∃ _, geD _ _ = some _ ∧ _); refine ⟨_, ge_dec _ _, ?_⟩) | ((with_reducible show ∃ _, subD _ _ = some _ ∧ _); refine ⟨_, sub_ii _ _, ?_⟩) | ((with_reducible show ∃ _, negD _ = some _ ∧ _); refine ⟨_, neg_i _, ?_⟩)
  | ((with_reducible show ∃ _, mulD _ _ = some _ ∧ _); refine ⟨_, mul_ii (by omega), ?_⟩) | ((with_reducible show ∃ _, modD _ _ = some _ ∧ _); refine ⟨_, mod_ii (by omega), ?_⟩) | ((with_reducible show ∃ _, divD _ _ = some _ ∧ _); refine ⟨_, div_ii (by omega) (by omega), ?_⟩)
  | ((with_reducible show ∃ _, mixE _ _ _ = some _ ∧ _); refine ⟨_, mix_nil rfl, ?_⟩)
  | ((with_reducible show _ < List.length _ ∧ _); refine ⟨of_decide_eq_true rfl, ?_⟩; (try simp only [List.set_cons_zero, List.set_cons_succ, O.fz, fzs_ints, fzs_purs, keepE_cons, keepE_nil, wipeE]))
  | ((with_reducible show (_ < List.length _ ∧ _) ∧ _); refine ⟨of_decide_eq_true rfl, ?_⟩; (try simp only [List.set_cons_zero, List.set_cons_succ, O.fz, fzs_ints, fzs_purs, keepE_cons, keepE_nil, wipeE]))
  | ((with_reducible show List.length _ ≤ 1000 ∧ _); refine ⟨of_decide_eq_true rfl, ?_⟩; (try simp only [List.set_cons_zero, List.set_cons_succ, O.fz, fzs_ints, fzs_purs, keepE_cons, keepE_nil, wipeE]))
  | ((with_reducible show flatO _ = true ∧ _); refine ⟨rfl, ?_⟩)
  | ((with_reducible show Ev (eaLate _ _) _ _); refine Ev_late rfl ?_)
  | with_reducible refine S_setIx ?_
  | ((with_reducible show EvS (sAugIx _ _ _ _) _ _ _ _ _); refine S_augIx rfl ?_)
  | ((with_reducible show EvS (sAug _ _ _) _ _ _ _ _); refine S_aug rfl ?_)
  | ((with_reducible show ∃ a b c, _ = D.int a ∧ _ ∧ _ ∧ _); refine ⟨_, _, _, rfl, rfl, rfl, ?_⟩; simp only [List.set_cons_zero, List.set_cons_succ, Int.toNat_ofNat, Int.reduceToNat])
  | ((with_reducible show ∃ a b c, _ = D.int a ∧ _ ∧ _ ∧ _); refine ⟨_, _, _, rfl, rfl, rfl, ?_⟩)
  | ((with_reducible show ∃ _, ixD _ _ = some _ ∧ _); refine ⟨_, rfl, ?_⟩)
  | ((with_reducible show ∃ _, lenD _ = some _ ∧ _); refine ⟨_, rfl, ?_⟩)
  | ((with_reducible show ∃ _, absD _ = some _ ∧ _); refine ⟨_, rfl, ?_⟩)
  | ((with_reducible show ∃ _, itemsD _ = some _ ∧ _); refine ⟨_, rfl, ?_⟩)
  | ((with_reducible show ∃ _, tupleD _ = some _ ∧ _); refine ⟨_, rfl, ?_⟩)
  | ((with_reducible show ∃ _, listD _ = some _ ∧ _); refine ⟨_, rfl, ?_⟩)
  | ((with_reducible show ∃ _, listL _ = some _ ∧ _); refine ⟨_, rfl, ?_⟩)
  | ((with_reducible show ∃ _, toIntD _ = some _ ∧ _); refine ⟨_, rfl, ?_⟩)
  | ((with_reducible show ∃ _, isD _ _ = some _ ∧ _); refine ⟨_, rfl, ?_⟩)
  | ((with_reducible show ∃ _, isNotD _ _ = some _ ∧ _); refine ⟨_, rfl, ?_⟩)
  | ((with_reducible show ∃ _, takeS _ _ = some _ ∧ _); refine ⟨_, rfl, ?_⟩)
  | ((with_reducible show ∃ _, fName _ _ _ = some _ ∧ _); refine ⟨_, rfl, ?_⟩; (try simp only [List.set_cons_zero, List.set_cons_succ]))
  | ((with_reducible show ∃ _, fTup _ _ _ _ = some _ ∧ _); refine ⟨_, rfl, ?_⟩; (try simp only [List.set_cons_zero, List.set_cons_succ]))
  | ((with_reducible show ∃ _, slD _ _ _ = some _ ∧ _); refine ⟨_, rfl, ?_⟩)
  | ((with_reducible show ∃ _, slL _ _ _ = some _ ∧ _); refine ⟨_, rfl, ?_⟩)
  | ((with_reducible show ∃ _, List.set _ _ _ = some _ ∧ _); refine ⟨_, rfl, ?_⟩)
  | ((with_reducible show ∃ _, getElem? _ _ = some _ ∧ _); refine ⟨_, rfl, ?_⟩)
  | ((with_reducible show ∃ _, rangeD1 [D.int (Nat.cast _)] = some _ ∧ _); refine ⟨_, range_nat (by omega), ?_⟩) | ((with_reducible show ∃ _, rangeD1 _ = some _ ∧ _); refine ⟨_, range_lit (by omega) (by omega), ?_⟩)
  | ((with_reducible show ∃ _, _ = D.int _ ∧ _); refine ⟨_, rfl, ?_⟩)
  | ((with_reducible show ∃ _, maxD [D.int _, D.int _] = some _ ∧ _); refine ⟨_, rfl, ?_⟩) | ((with_reducible show ∃ _, minD [D.int _, D.int _] = some _ ∧ _); refine ⟨_, rfl, ?_⟩)
  | ((with_reducible show ∃ _, truD _ = some _ ∧ _); refine ⟨_, rfl, ?_⟩)
  | ((with_reducible show ∃ _, _ = D.bl _ ∧ _); refine ⟨_, rfl, ?_⟩)
  | ((with_reducible show ∃ _, neD (.str _) (.str _) = some _ ∧ _); refine ⟨_, ne_str _, ?_⟩) | ((with_reducible show ∃ _, eqD (.str _) (.str _) = some _ ∧ _); refine ⟨_, eq_str _, ?_⟩))
local macro_rules | `(tactic| walk_at "e") => `(tactic| repeat walk_at "e1")
local macro_rules | `(tactic| walk_at "s") => `(tactic| repeat (first | with_reducible refine S_seq ?_ | walk_at "e1"))
local macro_rules | `(tactic| walk_at "n") => `(tactic| try simp only [List.set_cons_zero, List.set_cons_succ, O.fz, fzs_ints, fzs_purs, keepE_cons, keepE_nil, wipeE])
local macro_rules | `(tactic| walk_at "e1") => `(tactic| ((with_reducible show Ev (eCall f_law_take _ _) _ _); refine Ev_take rfl (by assumption) ?_; (try simp only [List.set_cons_zero, List.set_cons_succ])))
local macro_rules | `(tactic| walk_at "e1") => `(tactic| ((with_reducible show ∀ _ _, _ → _ → BagOk _ → _); intro r o' h1 h2 hb; (try simp only [List.set_cons_zero, List.set_cons_succ, O.fz])))
local macro_rules | `(tactic| walk_at "e1") => `(tactic| ((with_reducible show _ < _ ∧ _); refine ⟨by omega, ?_⟩))
local macro_rules | `(tactic| walk_at "e1") => `(tactic| ((with_reducible show Ev (eCall f_law_size _ _) _ _); refine Ev_size rfl (by assumption) ?_; (try simp only [List.set_cons_zero, List.set_cons_succ])))
local macro_rules | `(tactic| walk_at "e1") => `(tactic| ((with_reducible show ∃ _, lenD [D.lst (rowsD _)] = some _ ∧ _); refine ⟨_, rfl, ?_⟩; rw [rowsD_len]))
local macro_rules | `(tactic| walk_at "e1") => `(tactic| ((with_reducible show ∃ _, isaD _ = some _ ∧ _); refine ⟨_, rfl, ?_⟩))
local macro_rules | `(tactic| walk_at "e1") => `(tactic| ((with_reducible show ∃ _, rangeD1 [D.int (_ + 1)] = some _ ∧ _); refine ⟨_, range_succ' (by omega), ?_⟩))
local macro_rules | `(tactic| walk_at "e1") => `(tactic| ((with_reducible show ∃ _, rangeD1 [D.int (1 + _)] = some _ ∧ _); refine ⟨_, range_one_add (by omega) (by omega), ?_⟩))
local macro_rules | `(tactic| walk_at "e1") => `(tactic| ((with_reducible show EvS (sFrz _ _) _ _ _ _ _); refine S_frz rfl ?_; (try simp only [List.set_cons_zero, List.set_cons_succ, O.fz, fzs, fzs_ints, fzs_purs])))
local macro_rules | `(tactic| walk_at "e1") => `(tactic| first | with_reducible refine S_par2 ?_ | with_reducible refine S_par3 ?_)
local macro_rules | `(tactic| walk_at "e1") => `(tactic| ((with_reducible show ∃ o1 o2 : O, _ = [o1, o2] ∧ _); refine ⟨_, _, rfl, ?_⟩))
local macro_rules | `(tactic| walk_at "e1") => `(tactic| ((with_reducible show ∃ o1 o2 o3 : O, _ = [o1, o2, o3] ∧ _); refine ⟨_, _, _, rfl, ?_⟩))
local macro_rules | `(tactic| walk_at "e1") => `(tactic| ((with_reducible show (_ < List.length _ ∧ _ < List.length _ ∧ _ < List.length _) ∧ _); refine ⟨of_decide_eq_true rfl, ?_⟩; (try simp only [List.set_cons_zero, List.set_cons_succ, O.fz, fzs_ints, fzs_purs, keepE_cons, keepE_nil, wipeE])))
local macro_rules | `(tactic| walk_at "e1") => `(tactic| first
  | ((with_reducible show Ev (eMCallD _ _ _ _ _) _ _); refine Ev_mcallD (fun _ _ _ h => runB_nil h) ?_)
  | ((with_reducible show Ev (eMCallK _ _ _ _ _ _) _ _); refine Ev_mcallK (fun _ _ _ h => runB_nil h) ?_)
  | ((with_reducible show Ev (eCallK _ _ _) _ _); refine Ev_callK (fun _ _ _ h => runB_nil h) ?_)
  | with_reducible refine Ev_make ?_
  | ((with_reducible show ∃ _, fldD "Endless" "wide" (endD _ _) = some _ ∧ _); refine ⟨_, end_wide, ?_⟩)
  | ((with_reducible show ∃ _, fldD "Endless" "rows" (endD _ _) = some _ ∧ _); refine ⟨_, end_rows, ?_⟩)
  | ((with_reducible show ∃ _, fldD "Endless" "sums" (endD _ _) = some _ ∧ _); refine ⟨_, end_sums, ?_⟩)
  | ((with_reducible show isIns _ _ (endD _ _) = true ∧ _); refine ⟨rfl, ?_⟩)
  | ((with_reducible show ∃ _, divmodD [D.int _, D.int _] = some _ ∧ _); refine ⟨_, divmod_ii (by omega) (by omega), ?_⟩)
  | ((with_reducible show ∃ _, lenD [mapL _ _] = some _ ∧ _); refine ⟨_, mapL_len, ?_⟩)
  | ((with_reducible show ∃ _, itemsD (mapL _ _) = some _ ∧ _); refine ⟨_, mapL_items, ?_⟩)
  | ((with_reducible show (if isNon (D.int _) = true then _ else _)); rw [if_neg (show ¬ (isNon (D.int _) = true) from Bool.false_ne_true)])
  | ((with_reducible show (if isNon D.non = true then _ else _)); rw [if_pos (show isNon D.non = true from rfl)])
  | ((with_reducible show (if (!isNon (D.int _)) = true then _ else _)); rw [if_pos (show (!isNon (D.int _)) = true from rfl)])
  | ((with_reducible show (if (!isNon D.non) = true then _ else _)); rw [if_neg (show ¬ ((!isNon D.non) = true) from Bool.false_ne_true)])
  | ((with_reducible show (if isNon (mapL _ _) = true then _ else _)); rw [if_neg (show ¬ (isNon (mapL _ _) = true) from Bool.false_ne_true)])
  | ((with_reducible show (if isNon (jD none) = true then _ else _)); rw [if_pos (show isNon (jD none) = true from rfl)])
  | ((with_reducible show (if isNon (jD (some _)) = true then _ else _)); rw [if_neg (show ¬ (isNon (jD (some _)) = true) from Bool.false_ne_true)])
  | ((with_reducible show (if (!isNon (jD none)) = true then _ else _)); rw [if_neg (show ¬ ((!isNon (jD none)) = true) from Bool.false_ne_true)])
  | ((with_reducible show (if (!isNon (jD (some _))) = true then _ else _)); rw [if_pos (show (!isNon (jD (some _))) = true from rfl)])
  | with_reducible refine Ev_methT ?_)
local macro_rules | `(tactic| walk_at "e1") => `(tactic| first
  | ((with_reducible show EvS (sTupO _ _) _ _ _ _ _); refine S_tupO ?_)
  | ((with_reducible show Ev eDNew _ _); refine Ev_dnew ?_)
  | ((with_reducible show Ev (eMCallI _ _ _ _ false _ _) _ _); refine Ev_mcallI rfl (Ev_recvN ?_))
  | ((with_reducible show Ev (eMCallI _ _ _ _ true _ _) _ _); refine Ev_mcallI rfl (Ev_recvL ?_))
  | ((with_reducible show ∃ os : List O, O.tup _ = O.tup os ∧ _ ∧ _ ∧ _); refine ⟨_, rfl, rfl, of_decide_eq_true rfl, ?_⟩; simp only [setAll, List.set_cons_zero, List.set_cons_succ])
  | ((with_reducible show isIns _ _ (chD _ _ _ _ _ _ _) = true ∧ _); refine ⟨rfl, ?_⟩))
local macro_rules | `(tactic| walk_at "e1") => `(tactic| first
  | ((with_reducible show ∃ _, fldD "Chain" "firsts" (chD _ _ _ _ _ _ _) = some _ ∧ _); refine ⟨_, ch_firsts, ?_⟩)
  | ((with_reducible show ∃ _, fldD "Chain" "entries" (chD _ _ _ _ _ _ _) = some _ ∧ _); refine ⟨_, ch_entries, ?_⟩)
  | ((with_reducible show ∃ _, fldD "Chain" "rows" (chD _ _ _ _ _ _ _) = some _ ∧ _); refine ⟨_, ch_rows, ?_⟩)
  | ((with_reducible show ∃ _, fldD "Chain" "sums" (chD _ _ _ _ _ _ _) = some _ ∧ _); refine ⟨_, ch_sums, ?_⟩)
  | ((with_reducible show ∃ _, fldD "Chain" "wide" (chD _ _ _ _ _ _ _) = some _ ∧ _); refine ⟨_, ch_wide, ?_⟩))
/-! rounds, without any totals that agree -/
def SetE (s : RSt) (e : Edg) : Prop := ∀ x, s.d e.a = some x → ∃ y, s.d e.b = some y ∧ y ≤ x + e.m
/-- r: the round in which a place was changed last -/
structure GhI (E : List Edg) (o j : Nat) (P : Edg → Prop) (s : RSt) (r : Nat → Nat) : Prop where
  top : ∀ v, r v ≤ j + 1
  set0 : ∀ e ∈ E, r e.a < j → SetE s e
  set1 : ∀ e, P e → r e.a ≤ j → SetE s e
  lst : ∀ v e, s.l v = some e → r v ≤ r e.a + 1
  cur : ∀ v, s.c = some v → r v = j + 1 ∧ ∃ e, s.l v = some e
  non : ∀ v, s.l v = none → r v = 0
  has : ∀ v e, s.l v = some e → e ∈ E ∧ e.b = v ∧ ∃ x y, s.d e.a = some x ∧ s.d v = some y ∧ x + e.m ≤ y
  org : ∀ v x, s.d v = some x → v = o ∨ ∃ e, s.l v = some e
theorem GhI.next {E : List Edg} {o j : Nat} {s : RSt} {r : Nat → Nat} (h : GhI E o j (· ∈ E) s r) : GhI E o (j + 1) (fun _ => False) ⟨s.d, s.l, none⟩ r :=
  ⟨fun v => by have := h.top v; omega, fun e he hr => h.set1 e he (by omega), fun e he => he.elim, h.lst, (fun v hv => nomatch hv), h.non, h.has, h.org⟩
/-! the way back from a place that never settles -/
end DL.Sh
set_option Elab.async false
set_option linter.all false
set_option maxRecDepth 100000
set_option maxHeartbeats 4000000
/-! Contradictions: circle, least_totals, sizes_with; all totals between; drawn scenes. -/
namespace DL.Sh
open PySem PySem.Spec PyProof.Rows L2
/-- one step backwards -/
local macro_rules | `(tactic| walk_at "e1") => `(tactic| first
  | with_reducible refine S_next ?_ | with_reducible refine S_ret ?_ | with_reducible refine S_drop ?_ | with_reducible refine S_if ?_ | with_reducible refine S_for ?_
  | with_reducible refine Ev_C ?_ | with_reducible refine Ev_fz ?_ | with_reducible refine Ev_pur ?_ | with_reducible refine Ev_op2 ?_ | with_reducible refine Ev_top2 ?_ | with_reducible refine Ev_op1 ?_ | with_reducible refine Ev_val ?_
  | with_reducible refine Ev_tand ?_ | with_reducible refine Ev_tor ?_ | with_reducible refine Ev_tnot ?_ | with_reducible refine Ev_and ?_ | with_reducible refine Ev_or ?_ | with_reducible refine Ev_not ?_ | with_reducible refine Ev_if ?_
  | with_reducible refine Ev_anil ?_ | with_reducible refine Ev_acons ?_ | with_reducible refine Ev_eanil ?_ | with_reducible refine Ev_eacons ?_ | with_reducible refine Ev_call ?_ | with_reducible refine Ev_onone ?_ | with_reducible refine Ev_osome ?_
  | with_reducible refine Ev_sl ?_ | with_reducible refine Ev_esl ?_ | with_reducible refine Ev_eop2 ?_ | with_reducible refine Ev_eargs ?_ | with_reducible refine Ev_iseq ?_ | with_reducible refine Ev_iargs ?_ | with_reducible refine Ev_yes ?_
  | with_reducible refine Ev_chain ?_ | with_reducible refine Ev_tchain ?_
  | (with_reducible refine Ev_tbor ?_; simp only [frzE, Option.map_some, Option.map_none, O.fz, fzs, fzs_ints, fzs_purs])
  | (with_reducible refine Ev_bor ?_; simp only [frzE, Option.map_some, Option.map_none, O.fz, fzs, fzs_ints, fzs_purs])
  | ((with_reducible show (if (!true) = true then _ else _)); rw [if_neg (by decide)]) | ((with_reducible show (if (!false) = true then _ else _)); rw [if_pos (by decide)])
  | with_reducible refine Ev_call1 ?_ | ((with_reducible show (if true = true then _ else _)); rw [if_pos rfl]) | ((with_reducible show (if false = true then _ else _)); rw [if_neg Bool.false_ne_true])
  | ((with_reducible show Ev (dVar _) _ _); refine Ev_var rfl ?_)
  | ((with_reducible show Ev (eMove _) _ _); refine Ev_move rfl ?_; (try simp only [List.set_cons_zero, List.set_cons_succ]))
  | ((with_reducible refine S_set ?_))
  | (with_reducible refine S_asg ?_)
  | ((with_reducible refine Ev_tup ?_)) | ((with_reducible refine Ev_lst ?_)) | ((with_reducible refine Ev_elst ?_)) | ((with_reducible refine Ev_etup ?_))
  | ((with_reducible show ∃ _, powD _ _ = some _ ∧ _); refine ⟨_, pow18, ?_⟩) | ((with_reducible show ∃ _, powD _ _ = some _ ∧ _); refine ⟨_, rfl, ?_⟩; simp only [Int.reduceToNat, Int.reducePow]) | ((with_reducible show ∃ _, addD _ _ = some _ ∧ _); refine ⟨_, add_ii _ _, ?_⟩) | ((with_reducible show ∃ _, eqD _ _ = some _ ∧ _); refine ⟨_, eq_dec _ _, ?_⟩) | ((with_reducible show ∃ _, neD _ _ = some _ ∧ _); refine ⟨_, ne_dec _ _, ?_⟩) | ((with_reducible show ∃ _, ltD _ _ = some _ ∧ _); refine ⟨_, lt_dec _ _, ?_⟩) | ((with_reducible show ∃ _, leD _ _ = some _ ∧ _); refine ⟨_, le_dec _ _, ?_⟩) | ((with_reducible show ∃ _, gtD _ _ = some _ ∧ _); refine ⟨_, gt_dec _ _, ?_⟩) | ((with_reducible show ∃ _, geD _ _ = some _ ∧ _); refine ⟨_, ge_dec _ _, ?_⟩) | ((with_reducible show ∃ _, subD _ _ = some _ ∧ _); refine ⟨_, sub_ii _ _, ?_⟩) | ((with_reducible show ∃ _, negD _ = some _ ∧ _); refine ⟨_, neg_i _, ?_⟩)
  | ((with_reducible show ∃ _, mulD _ _ = some _ ∧ _); refine ⟨_, mul_ii (by omega), ?_⟩) | ((with_reducible show ∃ _, modD _ _ = some _ ∧ _); refine ⟨_, mod_ii (by omega), ?_⟩) | ((with_reducible show ∃ _, divD _ _ = some _ ∧ _); refine ⟨_, div_ii (by omega) (by omega), ?_⟩)
  | ((with_reducible show ∃ _, mixE _ _ _ = some _ ∧ _); refine ⟨_, mix_nil rfl, ?_⟩)
  | ((with_reducible show _ < List.length _ ∧ _); refine ⟨of_decide_eq_true rfl, ?_⟩; (try simp only [List.set_cons_zero, List.set_cons_succ, O.fz, fzs_ints, fzs_purs, keepE_cons, keepE_nil, wipeE]))
  | ((with_reducible show (_ < List.length _ ∧ _) ∧ _); refine ⟨of_decide_eq_true rfl, ?_⟩; (try simp only [List.set_cons_zero, List.set_cons_succ, O.fz, fzs_ints, fzs_purs, keepE_cons, keepE_nil, wipeE]))
  | ((with_reducible show List.length _ ≤ 1000 ∧ _); refine ⟨of_decide_eq_true rfl, ?_⟩; (try simp only [List.set_cons_zero, List.set_cons_succ, O.fz, fzs_ints, fzs_purs, keepE_cons, keepE_nil, wipeE]))
  | ((with_reducible show flatO _ = true ∧ _); refine ⟨rfl, ?_⟩)
  | ((with_reducible show Ev (eaLate _ _) _ _); refine Ev_late rfl ?_)
  | with_reducible refine S_setIx ?_
  | ((with_reducible show EvS (sAugIx _ _ _ _) _ _ _ _ _); refine S_augIx rfl ?_)
  | ((with_reducible show EvS (sAug _ _ _) _ _ _ _ _); refine S_aug rfl ?_)
  | ((with_reducible show ∃ a b c, _ = D.int a ∧ _ ∧ _ ∧ _); refine ⟨_, _, _, rfl, rfl, rfl, ?_⟩; simp only [List.set_cons_zero, List.set_cons_succ, Int.toNat_ofNat, Int.reduceToNat])
  | ((with_reducible show ∃ a b c, _ = D.int a ∧ _ ∧ _ ∧ _); refine ⟨_, _, _, rfl, rfl, rfl, ?_⟩)
  | ((with_reducible show ∃ _, ixD _ _ = some _ ∧ _); refine ⟨_, rfl, ?_⟩)
  | ((with_reducible show ∃ _, lenD _ = some _ ∧ _); refine ⟨_, rfl, ?_⟩)
  | ((with_reducible show ∃ _, absD _ = some _ ∧ _); refine ⟨_, rfl, ?_⟩)
  | ((with_reducible show ∃ _, itemsD _ = some _ ∧ _); refine ⟨_, rfl, ?_⟩)
  | ((with_reducible show ∃ _, tupleD _ = some _ ∧ _); refine ⟨_, rfl, ?_⟩)
  | ((with_reducible show ∃ _, listD _ = some _ ∧ _); refine ⟨_, rfl, ?_⟩)
  | ((with_reducible show ∃ _, listL _ = some _ ∧ _); refine ⟨_, rfl, ?_⟩)
  | ((with_reducible show ∃ _, toIntD _ = some _ ∧ _); refine ⟨_, rfl, ?_⟩)
  | ((with_reducible show ∃ _, isD _ _ = some _ ∧ _); refine ⟨_, rfl, ?_⟩)
  | ((with_reducible show ∃ _, isNotD _ _ = some _ ∧ _); refine ⟨_, rfl, ?_⟩)
  | ((with_reducible show ∃ _, takeS _ _ = some _ ∧ _); refine ⟨_, rfl, ?_⟩)
  | ((with_reducible show ∃ _, fName _ _ _ = some _ ∧ _); refine ⟨_, rfl, ?_⟩; (try simp only [List.set_cons_zero, List.set_cons_succ]))
  | ((with_reducible show ∃ _, fTup _ _ _ _ = some _ ∧ _); refine ⟨_, rfl, ?_⟩; (try simp only [List.set_cons_zero, List.set_cons_succ]))
  | ((with_reducible show ∃ _, slD _ _ _ = some _ ∧ _); refine ⟨_, rfl, ?_⟩)
  | ((with_reducible show ∃ _, slL _ _ _ = some _ ∧ _); refine ⟨_, rfl, ?_⟩)
  | ((with_reducible show ∃ _, List.set _ _ _ = some _ ∧ _); refine ⟨_, rfl, ?_⟩)
  | ((with_reducible show ∃ _, getElem? _ _ = some _ ∧ _); refine ⟨_, rfl, ?_⟩)
  | ((with_reducible show ∃ _, rangeD1 [D.int (Nat.cast _)] = some _ ∧ _); refine ⟨_, range_nat (by omega), ?_⟩) | ((with_reducible show ∃ _, rangeD1 _ = some _ ∧ _); refine ⟨_, range_lit (by omega) (by omega), ?_⟩)
  | ((with_reducible show ∃ _, _ = D.int _ ∧ _); refine ⟨_, rfl, ?_⟩)
  | ((with_reducible show ∃ _, maxD [D.int _, D.int _] = some _ ∧ _); refine ⟨_, rfl, ?_⟩) | ((with_reducible show ∃ _, minD [D.int _, D.int _] = some _ ∧ _); refine ⟨_, rfl, ?_⟩)
  | ((with_reducible show ∃ _, truD _ = some _ ∧ _); refine ⟨_, rfl, ?_⟩)
  | ((with_reducible show ∃ _, _ = D.bl _ ∧ _); refine ⟨_, rfl, ?_⟩)
  | ((with_reducible show ∃ _, neD (.str _) (.str _) = some _ ∧ _); refine ⟨_, ne_str _, ?_⟩) | ((with_reducible show ∃ _, eqD (.str _) (.str _) = some _ ∧ _); refine ⟨_, eq_str _, ?_⟩))
local macro_rules | `(tactic| walk_at "e") => `(tactic| repeat walk_at "e1")
local macro_rules | `(tactic| walk_at "s") => `(tactic| repeat (first | with_reducible refine S_seq ?_ | walk_at "e1"))
local macro_rules | `(tactic| walk_at "n") => `(tactic| try simp only [List.set_cons_zero, List.set_cons_succ, O.fz, fzs_ints, fzs_purs, keepE_cons, keepE_nil, wipeE])
local macro_rules | `(tactic| walk_at "e1") => `(tactic| ((with_reducible show Ev (eCall f_law_take _ _) _ _); refine Ev_take rfl (by assumption) ?_; (try simp only [List.set_cons_zero, List.set_cons_succ])))
local macro_rules | `(tactic| walk_at "e1") => `(tactic| ((with_reducible show ∀ _ _, _ → _ → BagOk _ → _); intro r o' h1 h2 hb; (try simp only [List.set_cons_zero, List.set_cons_succ, O.fz])))
local macro_rules | `(tactic| walk_at "e1") => `(tactic| ((with_reducible show _ < _ ∧ _); refine ⟨by omega, ?_⟩))
local macro_rules | `(tactic| walk_at "e1") => `(tactic| ((with_reducible show Ev (eCall f_law_size _ _) _ _); refine Ev_size rfl (by assumption) ?_; (try simp only [List.set_cons_zero, List.set_cons_succ])))
local macro_rules | `(tactic| walk_at "e1") => `(tactic| ((with_reducible show ∃ _, lenD [D.lst (rowsD _)] = some _ ∧ _); refine ⟨_, rfl, ?_⟩; rw [rowsD_len]))
local macro_rules | `(tactic| walk_at "e1") => `(tactic| ((with_reducible show ∃ _, isaD _ = some _ ∧ _); refine ⟨_, rfl, ?_⟩))
local macro_rules | `(tactic| walk_at "e1") => `(tactic| ((with_reducible show ∃ _, rangeD1 [D.int (_ + 1)] = some _ ∧ _); refine ⟨_, range_succ' (by omega), ?_⟩))
local macro_rules | `(tactic| walk_at "e1") => `(tactic| ((with_reducible show ∃ _, rangeD1 [D.int (1 + _)] = some _ ∧ _); refine ⟨_, range_one_add (by omega) (by omega), ?_⟩))
local macro_rules | `(tactic| walk_at "e1") => `(tactic| ((with_reducible show EvS (sFrz _ _) _ _ _ _ _); refine S_frz rfl ?_; (try simp only [List.set_cons_zero, List.set_cons_succ, O.fz, fzs, fzs_ints, fzs_purs])))
local macro_rules | `(tactic| walk_at "e1") => `(tactic| first | with_reducible refine S_par2 ?_ | with_reducible refine S_par3 ?_)
local macro_rules | `(tactic| walk_at "e1") => `(tactic| ((with_reducible show ∃ o1 o2 : O, _ = [o1, o2] ∧ _); refine ⟨_, _, rfl, ?_⟩))
local macro_rules | `(tactic| walk_at "e1") => `(tactic| ((with_reducible show ∃ o1 o2 o3 : O, _ = [o1, o2, o3] ∧ _); refine ⟨_, _, _, rfl, ?_⟩))
local macro_rules | `(tactic| walk_at "e1") => `(tactic| ((with_reducible show (_ < List.length _ ∧ _ < List.length _ ∧ _ < List.length _) ∧ _); refine ⟨of_decide_eq_true rfl, ?_⟩; (try simp only [List.set_cons_zero, List.set_cons_succ, O.fz, fzs_ints, fzs_purs, keepE_cons, keepE_nil, wipeE])))
local macro_rules | `(tactic| walk_at "e1") => `(tactic| first
  | ((with_reducible show Ev (eMCallD _ _ _ _ _) _ _); refine Ev_mcallD (fun _ _ _ h => runB_nil h) ?_)
  | ((with_reducible show Ev (eMCallK _ _ _ _ _ _) _ _); refine Ev_mcallK (fun _ _ _ h => runB_nil h) ?_)
  | ((with_reducible show Ev (eCallK _ _ _) _ _); refine Ev_callK (fun _ _ _ h => runB_nil h) ?_)
  | with_reducible refine Ev_make ?_
  | ((with_reducible show ∃ _, fldD "Endless" "wide" (endD _ _) = some _ ∧ _); refine ⟨_, end_wide, ?_⟩)
  | ((with_reducible show ∃ _, fldD "Endless" "rows" (endD _ _) = some _ ∧ _); refine ⟨_, end_rows, ?_⟩)
  | ((with_reducible show ∃ _, fldD "Endless" "sums" (endD _ _) = some _ ∧ _); refine ⟨_, end_sums, ?_⟩)
  | ((with_reducible show isIns _ _ (endD _ _) = true ∧ _); refine ⟨rfl, ?_⟩)
  | ((with_reducible show ∃ _, divmodD [D.int _, D.int _] = some _ ∧ _); refine ⟨_, divmod_ii (by omega) (by omega), ?_⟩)
  | ((with_reducible show ∃ _, lenD [mapL _ _] = some _ ∧ _); refine ⟨_, mapL_len, ?_⟩)
  | ((with_reducible show ∃ _, itemsD (mapL _ _) = some _ ∧ _); refine ⟨_, mapL_items, ?_⟩)
  | ((with_reducible show (if isNon (D.int _) = true then _ else _)); rw [if_neg (show ¬ (isNon (D.int _) = true) from Bool.false_ne_true)])
  | ((with_reducible show (if isNon D.non = true then _ else _)); rw [if_pos (show isNon D.non = true from rfl)])
  | ((with_reducible show (if (!isNon (D.int _)) = true then _ else _)); rw [if_pos (show (!isNon (D.int _)) = true from rfl)])
  | ((with_reducible show (if (!isNon D.non) = true then _ else _)); rw [if_neg (show ¬ ((!isNon D.non) = true) from Bool.false_ne_true)])
  | ((with_reducible show (if isNon (mapL _ _) = true then _ else _)); rw [if_neg (show ¬ (isNon (mapL _ _) = true) from Bool.false_ne_true)])
  | ((with_reducible show (if isNon (jD none) = true then _ else _)); rw [if_pos (show isNon (jD none) = true from rfl)])
  | ((with_reducible show (if isNon (jD (some _)) = true then _ else _)); rw [if_neg (show ¬ (isNon (jD (some _)) = true) from Bool.false_ne_true)])
  | ((with_reducible show (if (!isNon (jD none)) = true then _ else _)); rw [if_neg (show ¬ ((!isNon (jD none)) = true) from Bool.false_ne_true)])
  | ((with_reducible show (if (!isNon (jD (some _))) = true then _ else _)); rw [if_pos (show (!isNon (jD (some _))) = true from rfl)])
  | with_reducible refine Ev_methT ?_)
local macro_rules | `(tactic| walk_at "e1") => `(tactic| first
  | ((with_reducible show EvS (sTupO _ _) _ _ _ _ _); refine S_tupO ?_)
  | ((with_reducible show Ev eDNew _ _); refine Ev_dnew ?_)
  | ((with_reducible show Ev (eMCallI _ _ _ _ false _ _) _ _); refine Ev_mcallI rfl (Ev_recvN ?_))
  | ((with_reducible show Ev (eMCallI _ _ _ _ true _ _) _ _); refine Ev_mcallI rfl (Ev_recvL ?_))
  | ((with_reducible show ∃ os : List O, O.tup _ = O.tup os ∧ _ ∧ _ ∧ _); refine ⟨_, rfl, rfl, of_decide_eq_true rfl, ?_⟩; simp only [setAll, List.set_cons_zero, List.set_cons_succ])
  | ((with_reducible show isIns _ _ (chD _ _ _ _ _ _ _) = true ∧ _); refine ⟨rfl, ?_⟩))
local macro_rules | `(tactic| walk_at "e1") => `(tactic| first
  | ((with_reducible show ∃ _, fldD "Chain" "firsts" (chD _ _ _ _ _ _ _) = some _ ∧ _); refine ⟨_, ch_firsts, ?_⟩)
  | ((with_reducible show ∃ _, fldD "Chain" "entries" (chD _ _ _ _ _ _ _) = some _ ∧ _); refine ⟨_, ch_entries, ?_⟩)
  | ((with_reducible show ∃ _, fldD "Chain" "rows" (chD _ _ _ _ _ _ _) = some _ ∧ _); refine ⟨_, ch_rows, ?_⟩)
  | ((with_reducible show ∃ _, fldD "Chain" "sums" (chD _ _ _ _ _ _ _) = some _ ∧ _); refine ⟨_, ch_sums, ?_⟩)
  | ((with_reducible show ∃ _, fldD "Chain" "wide" (chD _ _ _ _ _ _ _) = some _ ∧ _); refine ⟨_, ch_wide, ?_⟩))
/-! totals that agree, or none -/
/-! one column put in the place of another one -/
end DL.Sh
set_option Elab.async false
set_option linter.all false
set_option maxRecDepth 100000
set_option maxHeartbeats 4000000
/-! The data layer: comprehensions with two fors; {k: e} with a key that is computed. -/
namespace DL
open PySem PySem.Spec PyProof.Rows L2
def eDisp1 (fk : M D) (fv : M O) : M O := bnd fk fun d => bnd fv fun o => opt ((keyD d).map fun k => .dct [(k, o)])
section
variable {X : Cx} {pos : Pos} {k v : Expr} {fk : M D} {fv : M O}
theorem e_disp1 (hk : PE X k (tD (gx X) fk)) (hv : PE X v (tE (gx X) fv)) : PE X (.Dict [some k] [v] pos) (tE (gx X) (eDisp1 fk fv)) :=
  (pe_disp (pps_cons hk hv pps_nil) rfl rfl (by simp) (by simp)).impD fun {σ H Q} ⟨F, ρ, fps, d, ρ', en, w, hf, q⟩ => by
    obtain ⟨x, ρ1, h1, h2⟩ := bnd_some.mp hf
    obtain ⟨o, ρ2, h3, h4⟩ := bnd_some.mp h2
    obtain ⟨h5, rfl⟩ := opt_some.mp h4
    obtain ⟨key, hkd, rfl⟩ := Option.map_eq_some_iff.mp h5
    intro p hp
    obtain ⟨x3, e3, w3, _⟩ := own_at (o := .dK []) en w hp
    refine ⟨F, ρ, fps, x, ρ1, e3, w3.left, h1, fun F1 H1 p1 u x1 e1 w1 r1 => ⟨F1, ρ1, p1, o, _, e1, w1, h3, fun F2 H2 p2 fp us x2 e2 w2 r2 => ?_⟩⟩
    have hu := r1.key hkd
    subst hu
    have X2 := x1.trans x2
    obtain ⟨wb, st⟩ := X2.beside w3 w2
    refine ⟨(st p (by simp)).trans upd_same, [(key, us)], rfl, by simp, ?_⟩
    have hm : mergeK [] [(key, us)] = [(key, us)] := by
      rw [merge_nodup _ [] (by simp)]; rfl
    rw [hm]
    have hpL : p ∈ (p2 ++ fp) ++ [p] := by simp
    have np : ∀ a, a ∈ p2 ∨ a ∈ fp → a ≠ p := fun a m e => by
      have nd := List.nodup_append.mp wb.nd
      exact nd.2.2 a (by simpa using m) p (by simp) e
    have hF : ∀ a, F2 a → F2 a ∧ upd H2 p (.dK [(key, us)]) a = H2 a := fun a f => ⟨f, upd_ne fun e => (wb.own p hpL).2 (e ▸ f)⟩
    have pm : ((p2 ++ fp) ++ [p]).Perm (p2 ++ (p :: fp)) := List.perm_iff_count.mpr fun a => by simp only [List.count_append, List.count_cons, List.count_nil]; omega
    have xx : Ext F H fps F2 H2 ((p2 ++ fp) ++ [p]) := x3.trans X2.wide
    refine q F2 _ p2 (p :: fp) (.ref p) ((xx.trans (Ext.put hpL)).perm pm) (e2.mono hF fun a m => upd_ne (np a (.inl m))) (wb.put.perm pm) ?_
    simp only [RpO]
    refine ⟨p, _, fp, rfl, upd_same, RpOK.mono hF _ _ _ (fun a m => upd_ne (np a (.inr m))) ?_, rfl⟩
    simp only [RpOK]
    exact ⟨us, [], fp, [], rfl, by simp, r2, rfl, rfl⟩
end
/-! ### two fors -/
section
variable {X : Cx} {elt tg iter : Expr} {ifs : List Expr} {scope : Scope} {own : List (Str × Nat)} {pos : Pos}
theorem Off.mono {vs ws : List Nat} {σ τ : L2.St} (h : Off vs σ τ) (k : ∀ i ∈ vs, i ∈ ws) : Off ws σ τ := ⟨h.1, fun i hi => h.2 i fun z => hi (k i z)⟩
end
end DL
set_option Elab.async false
set_option linter.all false
set_option maxRecDepth 100000
set_option maxHeartbeats 4000000
/-! zip of a tuple and a list, walked -/
namespace DL
open PySem PySem.Spec PyProof.Rows L2
end DL
set_option Elab.async false
set_option linter.all false
set_option maxRecDepth 100000
set_option maxHeartbeats 4000000
/-! The data layer: sorted of alike tuples that stand in their order. -/
namespace DL
open PySem PySem.Spec PyProof.Rows L2
/-! ### a part of an own tuple -/
end DL
set_option Elab.async false
set_option linter.all false
set_option maxRecDepth 100000
set_option maxHeartbeats 4000000
/-! t[::-1] of a tuple -/
namespace L2
open PySem PySem.Spec PyProof.Rows
end L2
namespace DL
open PySem PySem.Spec PyProof.Rows L2
end DL
set_option Elab.async false
set_option linter.all false
set_option maxRecDepth 100000
set_option maxHeartbeats 4000000
/-! x[a], x[b] = x[b], x[a] of a list of one's own -/
namespace DL
open PySem PySem.Spec PyProof.Rows L2
end DL
set_option Elab.async false
set_option linter.all false
set_option maxRecDepth 100000
set_option maxHeartbeats 4000000
/-! row = x[n]; row[k] = e, where x is an own list of lists -/
namespace DL
open PySem PySem.Spec PyProof.Rows L2
end DL
set_option Elab.async false
set_option linter.all false
set_option maxRecDepth 100000
set_option maxHeartbeats 4000000
/-! for row in x: row.clear(), where x is an own list of lists -/
namespace DL
open PySem PySem.Spec PyProof.Rows L2
end DL
set_option Elab.async false
set_option linter.all false
set_option maxRecDepth 100000
set_option maxHeartbeats 4000000
/-! for row in (x[0], x[2], ..): row.append(None), where x is an own list with own lists in it -/
namespace DL
open PySem PySem.Spec PyProof.Rows L2
end DL
set_option Elab.async false
set_option linter.all false
set_option maxRecDepth 100000
set_option maxHeartbeats 4000000
/-! d.get(k, x) -/
namespace DL
open PySem PySem.Spec PyProof.Rows L2
end DL
set_option Elab.async false
set_option linter.all false
set_option maxRecDepth 100000
set_option maxHeartbeats 4000000
/-! sum of a tuple; sorted of a dict with any number of keys -/
namespace DL
open PySem PySem.Spec PyProof.Rows L2
/-! ### sorted(d), any number of keys -/
end DL
set_option Elab.async false
set_option linter.all false
set_option maxRecDepth 100000
/-! sorted(set(xs)), xs a list of ints -/
namespace DL
open PySem PySem.Spec PyProof.Rows L2
section
variable {P : Program} {w : World} {A : Around} {E : Value → Shared → Prop} {s : Shared}
/-- a set just made -/
abbrev set0 (w : World) : Obj :=
  { cls := .type "set", dict := none,
    data := .set #[] 0 (.fresh 0 0 (!w.params.followText "set-order")) }
end
end DL
set_option Elab.async false
set_option linter.all false
set_option maxRecDepth 100000
set_option maxHeartbeats 4000000
namespace DL
open PySem PySem.Spec PyProof.Rows L2
/-! a choice between values of one's own -/
def eIfO (c : M Bool) (a b : M O) : M O := bnd c fun x => if x = true then a else b
section
open DL.Sh
variable {ρ : Env}
theorem Ev_ifO {c : M Bool} {a b : M O} {P : O → Env → Prop} (h : Ev c ρ fun x ρ1 => if x = true then Ev a ρ1 P else Ev b ρ1 P) : Ev (eIfO c a b) ρ P :=
  Ev_bnd (h.mono fun x ρ1 h => by
    cases x with
    | true => rw [if_pos rfl] at h ⊢; exact h
    | false => rw [if_neg Bool.false_ne_true] at h ⊢; exact h)
end
end DL
set_option Elab.async false
set_option linter.all false
set_option maxRecDepth 100000
set_option maxHeartbeats 4000000
/-! what the head tells of own exceptions: facts by one more Bool, over a part of the heap that holds the classes' common table too (asm.py sets this text ahead of all others) -/
namespace DL
open PySem PySem.Spec PyProof.Rows L2
end DL
set_option Elab.async false
set_option linter.all false
set_option maxRecDepth 100000
set_option maxHeartbeats 4000000
/-! raise C(e): own exceptions that have an __init__ of their own -/
namespace DL
open PySem PySem.Spec PyProof.Rows L2
/-! ### T.__init__(self, ..), T an own class over ValueError -/
/-! ### the specs of such an __init__ -/
/-! ### C() whose own __init__ sets no field -/
end DL
set_option Elab.async false
set_option linter.all false
set_option maxRecDepth 100000
set_option maxHeartbeats 4000000
/-! raise, try .. except C: -/
namespace DL
open PySem PySem.Spec PyProof.Rows L2
/-- raise c(e), which sets the field f -/
def xRaise1 (c f : Str) (fa : M D) : MSX := fun ρ => match fa ρ with
  | some (d, ρ1) => some (.ex c [(f, d)] ρ1)
  | none => none
/-- raise c() -/
def xRaise0 (c : Str) : MSX := fun ρ => some (.ex c [] ρ)
/-! ### try .. except C: -/
def xTryO (m : Str → Option Bool) (b : MSX) (h : MS) : MSX := fun ρ => match b ρ with
  | some (.ex c fs ρ1) => match m c with
    | some true => (h ρ1).map OX.o
    | some false => some (.ex c fs ρ1)
    | none => none
  | r => r
/-- where nothing goes past the clause -/
def sTryO (m : Str → Option Bool) (b : MSX) (h : MS) : MS := fun ρ => match b ρ with
  | some (.o r) => some r
  | some (.ex c fs ρ1) => match m c with
    | some true => h ρ1
    | _ => none
  | none => none
/-- which classes the clause takes -/
def ExT (K : PySem.W.Frag) (mg : Str → Option Value) (cH : Value) (l : List (Str × Bool)) : Prop := ∀ c C b, mg c = some (.ref C) → l.lookup c = some b → PySem.W.exmOne K (.ref C) cH = some b
theorem ExT.nil {K : PySem.W.Frag} {mg : Str → Option Value} {cH : Value} : ExT K mg cH [] := fun _ _ _ _ h => by cases h
theorem ExT.cons {K : PySem.W.Frag} {mg : Str → Option Value} {cH : Value} {c : Str} {C : Addr} {b : Bool} {l : List (Str × Bool)} (hm : mg c = some (.ref C)) (h : PySem.W.exmOne K (.ref C) cH = some b) (t : ExT K mg cH l) : ExT K mg cH ((c, b) :: l) := fun c2 C2 b2 m2 l2 => by
  by_cases e : c2 = c
  · subst e
    rw [hm] at m2
    cases m2
    simp only [List.lookup, beq_self_eq_true] at l2
    cases l2
    exact h
  · have z : (c2 == c) = false := by simpa using e
    simp only [List.lookup, z] at l2
    exact t c2 C2 b2 m2 l2
end DL
set_option Elab.async false
set_option linter.all false
set_option maxRecDepth 100000
set_option maxHeartbeats 4000000
/-! a.f, a.g, .. = e, .. -/
namespace DL
open PySem PySem.Spec PyProof.Rows L2
end DL
set_option Elab.async false
set_option linter.all false
set_option maxRecDepth 100000
set_option maxHeartbeats 4000000
/-! list(o.f): a list of one's own is copied, its parts are frozen -/
namespace DL
open PySem PySem.Spec PyProof.Rows L2
end DL
set_option Elab.async false
set_option linter.all false
set_option maxRecDepth 100000
set_option maxHeartbeats 4000000
/-! reasoning about statements that may raise -/
namespace DL
open PySem PySem.Spec PyProof.Rows L2
def EvX (f : MSX) (ρ : Env) (N : Env → Prop) (R : O → Env → Prop) (B C : Env → Prop) (E : Str → List (Str × D) → Env → Prop) : Prop := ∃ out, f ρ = some out ∧ (match out with
  | .o (.nx ρ1) => N ρ1
  | .o (.rt o ρ1) => R o ρ1
  | .o (.bk ρ1) => B ρ1
  | .o (.ct ρ1) => C ρ1
  | .ex c fs ρ1 => E c fs ρ1)
/-- an expression that may raise -/
def EvM (f : MXE) (ρ : Env) (P : O → Env → Prop) (E : Str → List (Str × D) → Env → Prop) : Prop := ∃ x ρ1, f ρ = some (x, ρ1) ∧ (match x with
  | .ok o => P o ρ1
  | .ex c fs => E c fs ρ1)
/-- the result of a def that may raise -/
def ExX (f : FX) (as : List O) (P : O → List O → Prop) (E : Str → List (Str × D) → List O → Prop) : Prop := ∃ x outs, f as = some (x, outs) ∧ (match x with
  | .ok o => P o outs
  | .ex c fs => E c fs outs)
section
variable {ρ : Env} {N N' : Env → Prop} {R R' : O → Env → Prop} {B C B' C' : Env → Prop} {E E' : Str → List (Str × D) → Env → Prop} {P P' : O → Env → Prop}
theorem EvX.mono {f : MSX} (h : EvX f ρ N R B C E) (k1 : ∀ ρ, N ρ → N' ρ) (k2 : ∀ o ρ, R o ρ → R' o ρ) (k3 : ∀ ρ, B ρ → B' ρ) (k4 : ∀ ρ, C ρ → C' ρ) (k5 : ∀ c fs ρ, E c fs ρ → E' c fs ρ) : EvX f ρ N' R' B' C' E' := by
  obtain ⟨out, e, q⟩ := h
  refine ⟨out, e, ?_⟩
  cases out with
  | ex c fs r => exact k5 c fs r q
  | o x => cases x with
    | nx r => exact k1 r q
    | rt o r => exact k2 o r q
    | bk r => exact k3 r q
    | ct r => exact k4 r q
theorem EvM.mono {f : MXE} (h : EvM f ρ P E) (k1 : ∀ o ρ, P o ρ → P' o ρ) (k2 : ∀ c fs ρ, E c fs ρ → E' c fs ρ) : EvM f ρ P' E' := by
  obtain ⟨x, ρ1, e, q⟩ := h
  refine ⟨x, ρ1, e, ?_⟩
  cases x with
  | ok o => exact k1 o ρ1 q
  | ex c fs => exact k2 c fs ρ1 q
theorem ExX.mono {f : FX} {as : List O} {P P' : O → List O → Prop} {E E' : Str → List (Str × D) → List O → Prop} (h : ExX f as P E) (k1 : ∀ o ρ, P o ρ → P' o ρ) (k2 : ∀ c fs ρ, E c fs ρ → E' c fs ρ) : ExX f as P' E' := by
  obtain ⟨x, ρ1, e, q⟩ := h
  refine ⟨x, ρ1, e, ?_⟩
  cases x with
  | ok o => exact k1 o ρ1 q
  | ex c fs => exact k2 c fs ρ1 q
theorem X_lift {f : MS} (h : EvS f ρ N R B C) : EvX (xLift f) ρ N R B C E := by
  obtain ⟨out, e, q⟩ := h
  refine ⟨.o out, by unfold xLift; rw [e]; rfl, ?_⟩
  cases out <;> exact q
theorem X_seq {f g : MSX} (h : EvX f ρ (fun ρ1 => EvX g ρ1 N R B C E) R B C E) : EvX (xSeq f g) ρ N R B C E := by
  obtain ⟨out, e, q⟩ := h
  cases out with
  | ex c fs r => exact ⟨_, by unfold xSeq; rw [e], q⟩
  | o x => cases x with
    | nx r =>
      obtain ⟨out2, e2, q2⟩ := q
      exact ⟨out2, by unfold xSeq; rw [e]; exact e2, q2⟩
    | rt o r => exact ⟨_, by unfold xSeq; rw [e], q⟩
    | bk r => exact ⟨_, by unfold xSeq; rw [e], q⟩
    | ct r => exact ⟨_, by unfold xSeq; rw [e], q⟩
theorem X_if {c : M Bool} {f g : MSX} (h : Ev c ρ fun b ρ1 => if b = true then EvX f ρ1 N R B C E else EvX g ρ1 N R B C E) : EvX (xIf c f g) ρ N R B C E := by
  obtain ⟨b, ρ1, e, p⟩ := h
  cases b with
  | true => obtain ⟨out, e2, q⟩ := p; exact ⟨out, by unfold xIf; rw [e]; exact e2, q⟩
  | false => obtain ⟨out, e2, q⟩ := p; exact ⟨out, by unfold xIf; rw [e]; exact e2, q⟩
theorem X_ret {f : MXE} (h : EvM f ρ R E) : EvX (xRet f) ρ N R B C E := by
  obtain ⟨x, ρ1, e, q⟩ := h
  cases x with
  | ok o => exact ⟨_, by unfold xRet; rw [e], q⟩
  | ex c fs => exact ⟨_, by unfold xRet; rw [e], q⟩
theorem X_drop {f : MXE} (h : EvM f ρ (fun _ ρ1 => N ρ1) E) : EvX (xDrop f) ρ N R B C E := by
  obtain ⟨x, ρ1, e, q⟩ := h
  cases x with
  | ok o => exact ⟨_, by unfold xDrop; rw [e], q⟩
  | ex c fs => exact ⟨_, by unfold xDrop; rw [e], q⟩
theorem X_set {i : Nat} {f : MXE} (h : EvM f ρ (fun o ρ1 => i < ρ1.length ∧ N (ρ1.set i (some o))) E) : EvX (xSet i f) ρ N R B C E := by
  obtain ⟨x, ρ1, e, q⟩ := h
  cases x with
  | ok o => exact ⟨.o (.nx (ρ1.set i (some o))), by unfold xSet; rw [e]; simp only [q.1, if_true], q.2⟩
  | ex c fs => exact ⟨_, by unfold xSet; rw [e], q⟩
theorem X_asg {t : TF} {f : MXE} (h : EvM f ρ (fun o ρ1 => ∃ ρ2, t o.fz ρ1 = some ρ2 ∧ N ρ2) E) : EvX (xAsg t f) ρ N R B C E := by
  obtain ⟨x, ρ1, e, q⟩ := h
  cases x with
  | ok o => obtain ⟨ρ2, e2, q⟩ := q; exact ⟨.o (.nx ρ2), by unfold xAsg; rw [e]; simp only [e2], q⟩
  | ex c fs => exact ⟨_, by unfold xAsg; rw [e], q⟩
theorem X_raise1 {c f : Str} {fa : M D} (h : Ev fa ρ fun d ρ1 => E c [(f, d)] ρ1) : EvX (xRaise1 c f fa) ρ N R B C E := by
  obtain ⟨d, ρ1, e, q⟩ := h
  exact ⟨_, by unfold xRaise1; rw [e], q⟩
theorem X_raise0 {c : Str} (h : E c [] ρ) : EvX (xRaise0 c) ρ N R B C E := ⟨_, rfl, h⟩
theorem M_fz {f : MXE} (h : EvM f ρ (fun o ρ1 => P (.pur o.fz) ρ1) E) : EvM (xFz f) ρ P E := by
  obtain ⟨x, ρ1, e, q⟩ := h
  cases x with
  | ok o => exact ⟨_, _, by unfold xFz; rw [e], q⟩
  | ex c fs => exact ⟨_, _, by unfold xFz; rw [e], q⟩
theorem M_of {f : M O} (h : Ev f ρ P) : EvM (xOf f) ρ P E := by
  obtain ⟨o, ρ1, e, q⟩ := h
  exact ⟨.ok o, ρ1, by unfold xOf; rw [e], q⟩
theorem M_tup2 {fa : M D} {f : MXE} (h : Ev fa ρ fun d ρ1 => EvM f ρ1 (fun o ρ2 => P (.tup [.pur d, o]) ρ2) E) : EvM (xTup2 fa f) ρ P E := by
  obtain ⟨d, ρ1, e, x, ρ2, e2, q⟩ := h
  cases x with
  | ok o => exact ⟨.ok (.tup [.pur d, o]), ρ2, by unfold xTup2; simp only [e, e2], q⟩
  | ex c fs => exact ⟨.ex c fs, ρ2, by unfold xTup2; simp only [e, e2], q⟩
theorem M_call {f : FX} {ss : List (Option Nat)} {fs : M (List O)} (h : Ev fs ρ fun os ρ1 => ExX f os (fun r outs => P r (putOuts ss outs ρ1)) fun c fs outs => E c fs (putOuts ss outs ρ1)) : EvM (eCallX f ss fs) ρ P E := by
  obtain ⟨os, ρ1, e, x, outs, e2, q⟩ := h
  cases x with
  | ok o => exact ⟨.ok o, _, by unfold eCallX; simp only [e, e2], q⟩
  | ex c fs => exact ⟨.ex c fs, _, by unfold eCallX; simp only [e, e2], q⟩
theorem M_mcall {c m : Str} {f : FX} {ss : List (Option Nat)} {late : Bool} {i : Nat} {fs : M (List O)} (hc : isRecv c m ρ[i]? = true) (h : EvM (eCallX f ss (recvM late i fs)) ρ P E) : EvM (eMCallX c m f ss late i fs) ρ P E := by
  obtain ⟨x, ρ1, e, q⟩ := h
  exact ⟨x, ρ1, by unfold eMCallX; rw [if_pos hc]; exact e, q⟩
theorem S_tryO {m : Str → Option Bool} {b : MSX} {h : MS} (k : EvX b ρ N R B C fun c fs ρ1 => m c = some true ∧ EvS h ρ1 N R B C) : EvS (sTryO m b h) ρ N R B C := by
  obtain ⟨out, e, q⟩ := k
  cases out with
  | ex c fs r =>
    obtain ⟨hm, out2, e2, q2⟩ := q
    exact ⟨out2, by unfold sTryO; rw [e]; simp only [hm, e2], q2⟩
  | o x =>
    refine ⟨x, by unfold sTryO; rw [e], ?_⟩
    cases x <;> exact q
theorem X_tryO {m : Str → Option Bool} {b : MSX} {h : MS} (k : EvX b ρ N R B C fun c fs ρ1 => ∃ t, m c = some t ∧ if t = true then EvS h ρ1 N R B C else E c fs ρ1) : EvX (xTryO m b h) ρ N R B C E := by
  obtain ⟨out, e, q⟩ := k
  cases out with
  | ex c fs r =>
    obtain ⟨t, hm, q⟩ := q
    cases t with
    | true =>
      obtain ⟨out2, e2, q2⟩ := q
      refine ⟨.o out2, by unfold xTryO; rw [e]; simp only [hm, e2, Option.map_some], ?_⟩
      cases out2 <;> exact q2
    | false => exact ⟨.ex c fs r, by unfold xTryO; rw [e]; simp only [hm], q⟩
  | o x =>
    refine ⟨.o x, by unfold xTryO; rw [e], ?_⟩
    cases x <;> exact q
/-- a for of which a turn may raise -/
theorem X_for {it : M (List D)} {t : TF} {b : MSX} (h : Ev it ρ fun ds ρ1 => ∃ I : Nat → Env → Prop, I 0 ρ1 ∧ (∀ i d ρ, ds[i]? = some d → I i ρ → ∃ ρ1, t d ρ = some ρ1 ∧ EvX b ρ1 (I (i + 1)) R N (I (i + 1)) E) ∧ ∀ ρ, I ds.length ρ → N ρ) : EvX (xFor it t b) ρ N R B C E := by
  obtain ⟨ds, ρ1, e, I, h0, hs, hd⟩ := h
  have main : ∀ (es : List D) (k : Nat) (ρ : Env), ds.drop k = es → k ≤ ds.length → I k ρ → ∃ out, forGoX t b es ρ = some out ∧ (match out with
      | .o (.nx ρ1) => N ρ1
      | .o (.rt o ρ1) => R o ρ1
      | .o (.bk ρ1) => B ρ1
      | .o (.ct ρ1) => C ρ1
      | .ex c fs ρ1 => E c fs ρ1) := by
    intro es
    induction es with
    | nil =>
      intro k ρ hk hl hi
      have : k = ds.length := by have := List.drop_eq_nil_iff.mp hk; omega
      subst this
      exact ⟨_, rfl, hd ρ hi⟩
    | cons d es ih =>
      intro k ρ hk hl hi
      have hlt : k < ds.length := by
        rcases Nat.lt_or_ge k ds.length with h | h
        · exact h
        · rw [List.drop_eq_nil_of_le h] at hk; cases hk
      rw [List.drop_eq_getElem_cons hlt] at hk
      injection hk with hk1 hk2
      obtain ⟨ρ1, e1, out, e2, q⟩ := hs k d ρ (by rw [← hk1]; simp [hlt]) hi
      unfold forGoX
      rw [e1]
      simp only [e2]
      cases out with
      | ex c fs r => exact ⟨_, rfl, q⟩
      | o x => cases x with
        | nx r => exact ih (k + 1) r hk2 (by omega) q
        | ct r => exact ih (k + 1) r hk2 (by omega) q
        | bk r => exact ⟨_, rfl, q⟩
        | rt o r => exact ⟨_, rfl, q⟩
  obtain ⟨out, e2, q⟩ := main ds 0 ρ1 (by simp) (Nat.zero_le _) h0
  exact ⟨out, by unfold xFor; rw [e]; exact e2, q⟩
end
end DL
set_option Elab.async false
set_option linter.all false
set_option maxRecDepth 100000
set_option maxHeartbeats 4000000
/-! xs == [], whatever stands in xs -/
namespace DL
open PySem PySem.Spec PyProof.Rows L2
end DL
set_option Elab.async false
set_option linter.all false
set_option maxRecDepth 100000
set_option maxHeartbeats 4000000
/-! Chain with deeds, taken back and done again. -/
namespace DL.Sh
open PySem PySem.Spec PyProof.Rows L2
/-- one step backwards -/
local macro_rules | `(tactic| walk_at "e1") => `(tactic| first
  | with_reducible refine S_next ?_ | with_reducible refine S_ret ?_ | with_reducible refine S_drop ?_ | with_reducible refine S_if ?_ | with_reducible refine S_for ?_
  | with_reducible refine Ev_C ?_ | with_reducible refine Ev_fz ?_ | with_reducible refine Ev_pur ?_ | with_reducible refine Ev_op2 ?_ | with_reducible refine Ev_top2 ?_ | with_reducible refine Ev_op1 ?_ | with_reducible refine Ev_val ?_
  | with_reducible refine Ev_tand ?_ | with_reducible refine Ev_tor ?_ | with_reducible refine Ev_tnot ?_ | with_reducible refine Ev_and ?_ | with_reducible refine Ev_or ?_ | with_reducible refine Ev_not ?_ | with_reducible refine Ev_if ?_
  | with_reducible refine Ev_anil ?_ | with_reducible refine Ev_acons ?_ | with_reducible refine Ev_eanil ?_ | with_reducible refine Ev_eacons ?_ | with_reducible refine Ev_call ?_ | with_reducible refine Ev_onone ?_ | with_reducible refine Ev_osome ?_
  | with_reducible refine Ev_sl ?_ | with_reducible refine Ev_esl ?_ | with_reducible refine Ev_eop2 ?_ | with_reducible refine Ev_eargs ?_ | with_reducible refine Ev_iseq ?_ | with_reducible refine Ev_iargs ?_ | with_reducible refine Ev_yes ?_
  | with_reducible refine Ev_chain ?_ | with_reducible refine Ev_tchain ?_
  | (with_reducible refine Ev_tbor ?_; simp only [frzE, Option.map_some, Option.map_none, O.fz, fzs, fzs_ints, fzs_purs])
  | (with_reducible refine Ev_bor ?_; simp only [frzE, Option.map_some, Option.map_none, O.fz, fzs, fzs_ints, fzs_purs])
  | ((with_reducible show (if (!true) = true then _ else _)); rw [if_neg (by decide)]) | ((with_reducible show (if (!false) = true then _ else _)); rw [if_pos (by decide)])
  | with_reducible refine Ev_call1 ?_ | ((with_reducible show (if true = true then _ else _)); rw [if_pos rfl]) | ((with_reducible show (if false = true then _ else _)); rw [if_neg Bool.false_ne_true])
  | ((with_reducible show Ev (dVar _) _ _); refine Ev_var rfl ?_)
  | ((with_reducible show Ev (eMove _) _ _); refine Ev_move rfl ?_; (try simp only [List.set_cons_zero, List.set_cons_succ]))
  | ((with_reducible refine S_set ?_))
  | (with_reducible refine S_asg ?_)
  | ((with_reducible refine Ev_tup ?_)) | ((with_reducible refine Ev_lst ?_)) | ((with_reducible refine Ev_elst ?_)) | ((with_reducible refine Ev_etup ?_))
  | ((with_reducible show ∃ _, powD _ _ = some _ ∧ _); refine ⟨_, pow18, ?_⟩) | ((with_reducible show ∃ _, powD _ _ = some _ ∧ _); refine ⟨_, rfl, ?_⟩; simp only [Int.reduceToNat, Int.reducePow]) | ((with_reducible show ∃ _, addD _ _ = some _ ∧ _); refine ⟨_, add_ii _ _, ?_⟩) | ((with_reducible show ∃ _, eqD _ _ = some _ ∧ _); refine ⟨_, eq_dec _ _, ?_⟩) | ((with_reducible show ∃ _, neD _ _ = some _ ∧ _); refine ⟨_, ne_dec _ _, ?_⟩) | ((with_reducible show ∃ _, ltD _ _ = some _ ∧ _); refine ⟨_, lt_dec _ _, ?_⟩) | ((with_reducible show ∃ _, leD _ _ = some _ ∧ _); refine ⟨_, le_dec _ _, ?_⟩) | ((with_reducible show ∃ _, gtD _ _ = some _ ∧ _); refine ⟨_, gt_dec _ _, ?_⟩) | ((with_reducible show ∃ _, geD _ _ = some _ ∧ _); refine ⟨_, ge_dec _ _, ?_⟩) | ((with_reducible show ∃ _, subD _ _ = some _ ∧ _); refine ⟨_, sub_ii _ _, ?_⟩) | ((with_reducible show ∃ _, negD _ = some _ ∧ _); refine ⟨_, neg_i _, ?_⟩)
  | ((with_reducible show ∃ _, mulD _ _ = some _ ∧ _); refine ⟨_, mul_ii (by omega), ?_⟩) | ((with_reducible show ∃ _, modD _ _ = some _ ∧ _); refine ⟨_, mod_ii (by omega), ?_⟩) | ((with_reducible show ∃ _, divD _ _ = some _ ∧ _); refine ⟨_, div_ii (by omega) (by omega), ?_⟩)
  | ((with_reducible show ∃ _, mixE _ _ _ = some _ ∧ _); refine ⟨_, mix_nil rfl, ?_⟩)
  | ((with_reducible show _ < List.length _ ∧ _); refine ⟨of_decide_eq_true rfl, ?_⟩; (try simp only [List.set_cons_zero, List.set_cons_succ, O.fz, fzs_ints, fzs_purs, keepE_cons, keepE_nil, wipeE]))
  | ((with_reducible show (_ < List.length _ ∧ _) ∧ _); refine ⟨of_decide_eq_true rfl, ?_⟩; (try simp only [List.set_cons_zero, List.set_cons_succ, O.fz, fzs_ints, fzs_purs, keepE_cons, keepE_nil, wipeE]))
  | ((with_reducible show List.length _ ≤ 1000 ∧ _); refine ⟨of_decide_eq_true rfl, ?_⟩; (try simp only [List.set_cons_zero, List.set_cons_succ, O.fz, fzs_ints, fzs_purs, keepE_cons, keepE_nil, wipeE]))
  | ((with_reducible show flatO _ = true ∧ _); refine ⟨rfl, ?_⟩)
  | ((with_reducible show Ev (eaLate _ _) _ _); refine Ev_late rfl ?_)
  | with_reducible refine S_setIx ?_
  | ((with_reducible show EvS (sAugIx _ _ _ _) _ _ _ _ _); refine S_augIx rfl ?_)
  | ((with_reducible show EvS (sAug _ _ _) _ _ _ _ _); refine S_aug rfl ?_)
  | ((with_reducible show ∃ a b c, _ = D.int a ∧ _ ∧ _ ∧ _); refine ⟨_, _, _, rfl, rfl, rfl, ?_⟩; simp only [List.set_cons_zero, List.set_cons_succ, Int.toNat_ofNat, Int.reduceToNat])
  | ((with_reducible show ∃ a b c, _ = D.int a ∧ _ ∧ _ ∧ _); refine ⟨_, _, _, rfl, rfl, rfl, ?_⟩)
  | ((with_reducible show ∃ _, ixD _ _ = some _ ∧ _); refine ⟨_, rfl, ?_⟩)
  | ((with_reducible show ∃ _, lenD _ = some _ ∧ _); refine ⟨_, rfl, ?_⟩)
  | ((with_reducible show ∃ _, absD _ = some _ ∧ _); refine ⟨_, rfl, ?_⟩)
  | ((with_reducible show ∃ _, itemsD _ = some _ ∧ _); refine ⟨_, rfl, ?_⟩)
  | ((with_reducible show ∃ _, tupleD _ = some _ ∧ _); refine ⟨_, rfl, ?_⟩)
  | ((with_reducible show ∃ _, listD _ = some _ ∧ _); refine ⟨_, rfl, ?_⟩)
  | ((with_reducible show ∃ _, listL _ = some _ ∧ _); refine ⟨_, rfl, ?_⟩)
  | ((with_reducible show ∃ _, toIntD _ = some _ ∧ _); refine ⟨_, rfl, ?_⟩)
  | ((with_reducible show ∃ _, isD _ _ = some _ ∧ _); refine ⟨_, rfl, ?_⟩)
  | ((with_reducible show ∃ _, isNotD _ _ = some _ ∧ _); refine ⟨_, rfl, ?_⟩)
  | ((with_reducible show ∃ _, takeS _ _ = some _ ∧ _); refine ⟨_, rfl, ?_⟩)
  | ((with_reducible show ∃ _, fName _ _ _ = some _ ∧ _); refine ⟨_, rfl, ?_⟩; (try simp only [List.set_cons_zero, List.set_cons_succ]))
  | ((with_reducible show ∃ _, fTup _ _ _ _ = some _ ∧ _); refine ⟨_, rfl, ?_⟩; (try simp only [List.set_cons_zero, List.set_cons_succ]))
  | ((with_reducible show ∃ _, slD _ _ _ = some _ ∧ _); refine ⟨_, rfl, ?_⟩)
  | ((with_reducible show ∃ _, slL _ _ _ = some _ ∧ _); refine ⟨_, rfl, ?_⟩)
  | ((with_reducible show ∃ _, List.set _ _ _ = some _ ∧ _); refine ⟨_, rfl, ?_⟩)
  | ((with_reducible show ∃ _, getElem? _ _ = some _ ∧ _); refine ⟨_, rfl, ?_⟩)
  | ((with_reducible show ∃ _, rangeD1 [D.int (Nat.cast _)] = some _ ∧ _); refine ⟨_, range_nat (by omega), ?_⟩) | ((with_reducible show ∃ _, rangeD1 _ = some _ ∧ _); refine ⟨_, range_lit (by omega) (by omega), ?_⟩)
  | ((with_reducible show ∃ _, _ = D.int _ ∧ _); refine ⟨_, rfl, ?_⟩)
  | ((with_reducible show ∃ _, maxD [D.int _, D.int _] = some _ ∧ _); refine ⟨_, rfl, ?_⟩) | ((with_reducible show ∃ _, minD [D.int _, D.int _] = some _ ∧ _); refine ⟨_, rfl, ?_⟩)
  | ((with_reducible show ∃ _, truD _ = some _ ∧ _); refine ⟨_, rfl, ?_⟩)
  | ((with_reducible show ∃ _, _ = D.bl _ ∧ _); refine ⟨_, rfl, ?_⟩)
  | ((with_reducible show ∃ _, neD (.str _) (.str _) = some _ ∧ _); refine ⟨_, ne_str _, ?_⟩) | ((with_reducible show ∃ _, eqD (.str _) (.str _) = some _ ∧ _); refine ⟨_, eq_str _, ?_⟩))
local macro_rules | `(tactic| walk_at "e") => `(tactic| repeat walk_at "e1")
local macro_rules | `(tactic| walk_at "s") => `(tactic| repeat (first | with_reducible refine S_seq ?_ | walk_at "e1"))
local macro_rules | `(tactic| walk_at "n") => `(tactic| try simp only [List.set_cons_zero, List.set_cons_succ, O.fz, fzs_ints, fzs_purs, keepE_cons, keepE_nil, wipeE])
local macro_rules | `(tactic| walk_at "e1") => `(tactic| ((with_reducible show Ev (eCall f_law_take _ _) _ _); refine Ev_take rfl (by assumption) ?_; (try simp only [List.set_cons_zero, List.set_cons_succ])))
local macro_rules | `(tactic| walk_at "e1") => `(tactic| ((with_reducible show ∀ _ _, _ → _ → BagOk _ → _); intro r o' h1 h2 hb; (try simp only [List.set_cons_zero, List.set_cons_succ, O.fz])))
local macro_rules | `(tactic| walk_at "e1") => `(tactic| ((with_reducible show _ < _ ∧ _); refine ⟨by omega, ?_⟩))
local macro_rules | `(tactic| walk_at "e1") => `(tactic| ((with_reducible show Ev (eCall f_law_size _ _) _ _); refine Ev_size rfl (by assumption) ?_; (try simp only [List.set_cons_zero, List.set_cons_succ])))
local macro_rules | `(tactic| walk_at "e1") => `(tactic| ((with_reducible show ∃ _, lenD [D.lst (rowsD _)] = some _ ∧ _); refine ⟨_, rfl, ?_⟩; rw [rowsD_len]))
local macro_rules | `(tactic| walk_at "e1") => `(tactic| ((with_reducible show ∃ _, isaD _ = some _ ∧ _); refine ⟨_, rfl, ?_⟩))
local macro_rules | `(tactic| walk_at "e1") => `(tactic| ((with_reducible show ∃ _, rangeD1 [D.int (_ + 1)] = some _ ∧ _); refine ⟨_, range_succ' (by omega), ?_⟩))
local macro_rules | `(tactic| walk_at "e1") => `(tactic| ((with_reducible show ∃ _, rangeD1 [D.int (1 + _)] = some _ ∧ _); refine ⟨_, range_one_add (by omega) (by omega), ?_⟩))
local macro_rules | `(tactic| walk_at "e1") => `(tactic| ((with_reducible show EvS (sFrz _ _) _ _ _ _ _); refine S_frz rfl ?_; (try simp only [List.set_cons_zero, List.set_cons_succ, O.fz, fzs, fzs_ints, fzs_purs])))
local macro_rules | `(tactic| walk_at "e1") => `(tactic| first | with_reducible refine S_par2 ?_ | with_reducible refine S_par3 ?_)
local macro_rules | `(tactic| walk_at "e1") => `(tactic| ((with_reducible show ∃ o1 o2 : O, _ = [o1, o2] ∧ _); refine ⟨_, _, rfl, ?_⟩))
local macro_rules | `(tactic| walk_at "e1") => `(tactic| ((with_reducible show ∃ o1 o2 o3 : O, _ = [o1, o2, o3] ∧ _); refine ⟨_, _, _, rfl, ?_⟩))
local macro_rules | `(tactic| walk_at "e1") => `(tactic| ((with_reducible show (_ < List.length _ ∧ _ < List.length _ ∧ _ < List.length _) ∧ _); refine ⟨of_decide_eq_true rfl, ?_⟩; (try simp only [List.set_cons_zero, List.set_cons_succ, O.fz, fzs_ints, fzs_purs, keepE_cons, keepE_nil, wipeE])))
local macro_rules | `(tactic| walk_at "e1") => `(tactic| first
  | ((with_reducible show Ev (eMCallD _ _ _ _ _) _ _); refine Ev_mcallD (fun _ _ _ h => runB_nil h) ?_)
  | ((with_reducible show Ev (eMCallK _ _ _ _ _ _) _ _); refine Ev_mcallK (fun _ _ _ h => runB_nil h) ?_)
  | ((with_reducible show Ev (eCallK _ _ _) _ _); refine Ev_callK (fun _ _ _ h => runB_nil h) ?_)
  | with_reducible refine Ev_make ?_
  | ((with_reducible show ∃ _, fldD "Endless" "wide" (endD _ _) = some _ ∧ _); refine ⟨_, end_wide, ?_⟩)
  | ((with_reducible show ∃ _, fldD "Endless" "rows" (endD _ _) = some _ ∧ _); refine ⟨_, end_rows, ?_⟩)
  | ((with_reducible show ∃ _, fldD "Endless" "sums" (endD _ _) = some _ ∧ _); refine ⟨_, end_sums, ?_⟩)
  | ((with_reducible show isIns _ _ (endD _ _) = true ∧ _); refine ⟨rfl, ?_⟩)
  | ((with_reducible show ∃ _, divmodD [D.int _, D.int _] = some _ ∧ _); refine ⟨_, divmod_ii (by omega) (by omega), ?_⟩)
  | ((with_reducible show ∃ _, lenD [mapL _ _] = some _ ∧ _); refine ⟨_, mapL_len, ?_⟩)
  | ((with_reducible show ∃ _, itemsD (mapL _ _) = some _ ∧ _); refine ⟨_, mapL_items, ?_⟩)
  | ((with_reducible show (if isNon (D.int _) = true then _ else _)); rw [if_neg (show ¬ (isNon (D.int _) = true) from Bool.false_ne_true)])
  | ((with_reducible show (if isNon D.non = true then _ else _)); rw [if_pos (show isNon D.non = true from rfl)])
  | ((with_reducible show (if (!isNon (D.int _)) = true then _ else _)); rw [if_pos (show (!isNon (D.int _)) = true from rfl)])
  | ((with_reducible show (if (!isNon D.non) = true then _ else _)); rw [if_neg (show ¬ ((!isNon D.non) = true) from Bool.false_ne_true)])
  | ((with_reducible show (if isNon (mapL _ _) = true then _ else _)); rw [if_neg (show ¬ (isNon (mapL _ _) = true) from Bool.false_ne_true)])
  | ((with_reducible show (if isNon (jD none) = true then _ else _)); rw [if_pos (show isNon (jD none) = true from rfl)])
  | ((with_reducible show (if isNon (jD (some _)) = true then _ else _)); rw [if_neg (show ¬ (isNon (jD (some _)) = true) from Bool.false_ne_true)])
  | ((with_reducible show (if (!isNon (jD none)) = true then _ else _)); rw [if_neg (show ¬ ((!isNon (jD none)) = true) from Bool.false_ne_true)])
  | ((with_reducible show (if (!isNon (jD (some _))) = true then _ else _)); rw [if_pos (show (!isNon (jD (some _))) = true from rfl)])
  | with_reducible refine Ev_methT ?_)
local macro_rules | `(tactic| walk_at "e1") => `(tactic| first
  | ((with_reducible show EvS (sTupO _ _) _ _ _ _ _); refine S_tupO ?_)
  | ((with_reducible show Ev eDNew _ _); refine Ev_dnew ?_)
  | ((with_reducible show Ev (eMCallI _ _ _ _ false _ _) _ _); refine Ev_mcallI rfl (Ev_recvN ?_))
  | ((with_reducible show Ev (eMCallI _ _ _ _ true _ _) _ _); refine Ev_mcallI rfl (Ev_recvL ?_))
  | ((with_reducible show ∃ os : List O, O.tup _ = O.tup os ∧ _ ∧ _ ∧ _); refine ⟨_, rfl, rfl, of_decide_eq_true rfl, ?_⟩; simp only [setAll, List.set_cons_zero, List.set_cons_succ])
  | ((with_reducible show isIns _ _ (chD _ _ _ _ _ _ _) = true ∧ _); refine ⟨rfl, ?_⟩))
local macro_rules | `(tactic| walk_at "e1") => `(tactic| first
  | ((with_reducible show ∃ _, fldD "Chain" "firsts" (chD _ _ _ _ _ _ _) = some _ ∧ _); refine ⟨_, ch_firsts, ?_⟩)
  | ((with_reducible show ∃ _, fldD "Chain" "entries" (chD _ _ _ _ _ _ _) = some _ ∧ _); refine ⟨_, ch_entries, ?_⟩)
  | ((with_reducible show ∃ _, fldD "Chain" "rows" (chD _ _ _ _ _ _ _) = some _ ∧ _); refine ⟨_, ch_rows, ?_⟩)
  | ((with_reducible show ∃ _, fldD "Chain" "sums" (chD _ _ _ _ _ _ _) = some _ ∧ _); refine ⟨_, ch_sums, ?_⟩)
  | ((with_reducible show ∃ _, fldD "Chain" "wide" (chD _ _ _ _ _ _ _) = some _ ∧ _); refine ⟨_, ch_wide, ?_⟩))
local macro_rules | `(tactic| walk_at "e1") => `(tactic| first
  | with_reducible refine X_lift ?_ | with_reducible refine X_seq ?_ | with_reducible refine X_if ?_ | with_reducible refine X_ret ?_ | with_reducible refine X_drop ?_ | with_reducible refine X_set ?_ | with_reducible refine X_asg ?_
  | with_reducible refine X_raise1 ?_ | with_reducible refine X_raise0 ?_ | with_reducible refine M_fz ?_ | with_reducible refine M_of ?_ | with_reducible refine M_tup2 ?_ | with_reducible refine M_call ?_ | with_reducible refine S_tryO ?_ | with_reducible refine X_tryO ?_ | with_reducible refine X_for ?_ | with_reducible refine Ev_ifO ?_
  | ((with_reducible show EvM (eMCallX _ _ _ _ false _ _) _ _ _); refine M_mcall rfl (M_call (Ev_recvN ?_)))
  | ((with_reducible show EvM (eMCallX _ _ _ _ true _ _) _ _ _); refine M_mcall rfl (M_call (Ev_recvL ?_))))
/-! pins as a dict of one's own -/
/-! deeds and what they do -/
inductive Deed where
  | add (row : List Int)
  | rsz (t : Nat) (l : Int)
  | pin (n : Nat)
  | rel (n : Nat)
def dD : Deed → D
  | .add row => .tup [.str "add", .tup (row.map .int)]
  | .rsz t l => .tup [.str "resize", .int (t : Nat), .int l]
  | .pin n => .tup [.str "pin", .int (n : Nat)]
  | .rel n => .tup [.str "release", .int (n : Nat)]
structure ChS where
  rows : List (List Int)
  ts : List (Nat × Int)
  fs : List Nat
  ps : List Nat
/-- a deed without what it makes go -/
def ChS.pre (s : ChS) : Deed → ChS
  | .add row => { s with rows := s.rows ++ [row] }
  | .rsz t l => { s with ts := s.ts.set t ((s.ts.getD t (0, 0)).1, l) }
  | .pin n => { s with ps := s.ps ++ [n] }
  | .rel n => { s with ps := s.ps.erase n }
def ChS.trim (s : ChS) : ChS := { s with fs := trimL s.rows s.ps s.ts s.fs s.rows.length }
def ChS.go (s : ChS) (d : Deed) : ChS := (s.pre d).trim
def ChS.O (s : ChS) (w : Nat) (past later : List O) : DL.O := chO w s.rows s.ts s.fs s.ps past later
def ChS.D (s : ChS) (w : Nat) (past later : List D) : DL.D := chD w s.rows s.ts s.fs s.ps past later
def rowOk (w : Nat) (row : List Int) : Prop := row.length = w ∧ ∀ x ∈ row, 0 ≤ x ∧ x ≤ 10 ^ 18
/-- a deed that can be done -/
def ChS.can (s : ChS) (w : Nat) : Deed → Prop
  | .add row => rowOk w row ∧ s.rows.length < 400
  | .rsz t l => t < s.ts.length ∧ 0 ≤ l ∧ l ≤ 10 ^ 18
  | .pin n => n ∉ s.ps ∧ n < s.rows.length
  | .rel n => n ∈ s.ps
structure ChS.Ok (s : ChS) (w : Nat) : Prop where
  rows : RowsB w (10 ^ 18) s.rows
  len : s.rows.length ≤ 400
  ts : TiersOk w (10 ^ 18) s.ts
  t0 : 0 < s.ts.length
  t8 : s.ts.length ≤ 8
  fl : s.fs.length = s.ts.length
  fd : Dsc s.rows.length s.fs
  pn : s.ps.Nodup
  pl : ∀ n ∈ s.ps, n < s.rows.length
theorem ChS.go_ok {s : ChS} {w : Nat} {d : Deed} (hs : s.Ok w) (hc : s.can w d) : (s.go d).Ok w := by
  have key : ∀ s : ChS, RowsB w (10 ^ 18) s.rows → s.rows.length ≤ 400 → TiersOk w (10 ^ 18) s.ts → 0 < s.ts.length → s.ts.length ≤ 8 → s.fs.length = s.ts.length → Dsc s.rows.length s.fs → s.ps.Nodup → (∀ n ∈ s.ps, n < s.rows.length) → s.trim.Ok w :=
    fun s h1 h2 h3 h4 h5 h6 h7 h8 h9 => ⟨h1, h2, h3, h4, h5, trimL_len _ _ _ _ _ h6, trimL_dsc _ _ _ _ _ h7, h8, h9⟩
  cases d with
  | add row =>
    refine key _ (fun r h => ?_) ?_ hs.ts hs.t0 hs.t8 hs.fl (hs.fd.up ?_) hs.pn fun n h => ?_
    · rcases List.mem_append.mp h with h | h
      · exact hs.rows r h
      · rw [List.mem_singleton.mp h]; exact hc.1
    · show (s.rows ++ [row]).length ≤ 400
      rw [List.length_append]
      have := hc.2
      simp; omega
    · show _ ≤ (s.rows ++ [row]).length
      simp
    · show _ < (s.rows ++ [row]).length
      have := hs.pl n h
      simp; omega
  | rsz t l =>
    refine key _ hs.rows hs.len (fun x h => ?_) (by show 0 < (s.ts.set _ _).length; rw [List.length_set]; exact hs.t0) (by show (s.ts.set _ _).length ≤ 8; rw [List.length_set]; exact hs.t8) (by show _ = (s.ts.set _ _).length; rw [List.length_set]; exact hs.fl) hs.fd hs.pn hs.pl
    rcases List.mem_or_eq_of_mem_set h with h | h
    · exact hs.ts x h
    · subst h
      have hm : s.ts.getD t (0, 0) ∈ s.ts := by
        rw [List.getD_eq_getElem?_getD, List.getElem?_eq_getElem hc.1]
        exact List.getElem_mem _
      exact ⟨(hs.ts _ hm).1, hc.2.1, hc.2.2⟩
  | pin n =>
    refine key _ hs.rows hs.len hs.ts hs.t0 hs.t8 hs.fl hs.fd ?_ fun k h => ?_
    · show (s.ps ++ [n]).Nodup
      refine List.nodup_append.mpr ⟨hs.pn, by simp, fun a ha b hb => ?_⟩
      rw [List.mem_singleton.mp hb]
      exact fun z => hc.1 (z ▸ ha)
    · rcases List.mem_append.mp (show k ∈ s.ps ++ [n] from h) with h | h
      · exact hs.pl k h
      · rw [List.mem_singleton.mp h]; exact hc.2
  | rel n =>
    exact key _ hs.rows hs.len hs.ts hs.t0 hs.t8 hs.fl hs.fd (hs.pn.erase n) fun k h => hs.pl k (List.mem_of_mem_erase h)
end DL.Sh
set_option Elab.async false
set_option linter.all false
set_option maxRecDepth 100000
set_option maxHeartbeats 4000000
/-! a call whose arguments are parts of one dict of one's own, one of which changes -/
namespace DL
open PySem PySem.Spec PyProof.Rows L2
/-! ### the arguments -/
end DL
set_option Elab.async false
set_option linter.all false
set_option maxRecDepth 100000
set_option maxHeartbeats 4000000
/-! try .. except C as e: what is asked of e -/
namespace DL
open PySem PySem.Spec PyProof.Rows L2
/-! ### one result for all exceptions of the class and its fields -/
end DL
set_option Elab.async false
set_option linter.all false
set_option maxRecDepth 100000
set_option maxHeartbeats 4000000
/-! what is asked of a caught exception -/
namespace DL
open PySem PySem.Spec PyProof.Rows L2
/-! ### over the data layer -/
def isExv (a : Addr) (d : Option Addr) (i : Nat) (ρ : Env) : Option (List (Str × D)) := match ρ[i]? with
  | some (some (.pur (.exv a' d' fs))) => if a' = a ∧ d' = d then some fs else none
  | _ => none
/-- isinstance(e, C) -/
def dIsX (a : Addr) (d : Option Addr) (i : Nat) (o : Option Bool) : M D := fun ρ => match isExv a d i ρ, o with
  | some _, some b => some (.bl b, ρ)
  | _, _ => none
/-- isinstance(e, (C, ..)) -/
def allB : List (Option Bool) → Option Bool
  | [] => some false
  | some b :: r => (allB r).map (b || ·)
  | none :: _ => none
def dIsXs (a : Addr) (d : Option Addr) (i : Nat) (os : List (Option Bool)) : M D := dIsX a d i (allB os)
/-- e.f -/
def dExF (a : Addr) (d : Option Addr) (i : Nat) (f : Str) (o : Option Bool) : M D := fun ρ => match isExv a d i ρ, o with
  | some fs, some _ => (fs.lookup f).map (·, ρ)
  | _, _ => none
/-- what isinstance says of the classes -/
def KiT (K : PySem.W.Frag) (mg : Str → Option Value) (cv : Value) (l : List (Str × Bool)) : Prop := ∀ c C b, mg c = some (.ref C) → l.lookup c = some b → ExcC K C ∧ PySem.W.kitOne K (.ref C) cv = some b
theorem KiT.nil {K : PySem.W.Frag} {mg : Str → Option Value} {cv : Value} : KiT K mg cv [] := fun _ _ _ _ h => by cases h
theorem KiT.cons {K : PySem.W.Frag} {mg : Str → Option Value} {cv : Value} {c : Str} {C : Addr} {b : Bool} {l : List (Str × Bool)} (hm : mg c = some (.ref C)) (hx : ExcC K C) (h : PySem.W.kitOne K (.ref C) cv = some b) (t : KiT K mg cv l) : KiT K mg cv ((c, b) :: l) := fun c2 C2 b2 m2 l2 => by
  by_cases e : c2 = c
  · subst e
    rw [hm] at m2
    cases m2
    simp only [List.lookup, beq_self_eq_true] at l2
    cases l2
    exact ⟨hx, h⟩
  · have z : (c2 == c) = false := by simpa using e
    simp only [List.lookup, z] at l2
    exact t c2 C2 b2 m2 l2
/-- where the field f is read -/
def XfT (K : PySem.W.Frag) (mg : Str → Option Value) (f : Str) (l : List (Str × Bool)) : Prop := ∀ c C b, mg c = some (.ref C) → l.lookup c = some b → XfC K C ∧ PySem.W.findIn K (.ref C) f = some none
theorem XfT.nil {K : PySem.W.Frag} {mg : Str → Option Value} {f : Str} : XfT K mg f [] := fun _ _ _ _ h => by cases h
theorem XfT.cons {K : PySem.W.Frag} {mg : Str → Option Value} {f c : Str} {C : Addr} {b : Bool} {l : List (Str × Bool)} (hm : mg c = some (.ref C)) (hx : XfC K C) (h : PySem.W.findIn K (.ref C) f = some none) (t : XfT K mg f l) : XfT K mg f ((c, b) :: l) := fun c2 C2 b2 m2 l2 => by
  by_cases e : c2 = c
  · subst e
    rw [hm] at m2
    cases m2
    exact ⟨hx, h⟩
  · have z : (c2 == c) = false := by simpa using e
    simp only [List.lookup, z] at l2
    exact t c2 C2 b2 m2 l2
/-! ### isinstance(e, (C, ..)) -/
end DL
namespace DL
open PySem PySem.Spec PyProof.Rows L2
end DL
set_option Elab.async false
set_option linter.all false
set_option maxRecDepth 100000
set_option maxHeartbeats 4000000
/-! reasoning about caught exceptions -/
namespace DL
open PySem PySem.Spec PyProof.Rows L2
section
variable {ρ : Env} {N : Env → Prop} {R : O → Env → Prop} {B C : Env → Prop} {E : Str → List (Str × D) → Env → Prop}
theorem isExv_self {a : Addr} {d : Option Addr} {i : Nat} {fs : List (Str × D)} (h : ρ[i]? = some (some (.pur (.exv a d fs)))) : isExv a d i ρ = some fs := by
  unfold isExv
  rw [h]
  simp
open DL.Sh
theorem Ev_isX {a : Addr} {d : Option Addr} {i : Nat} {fs : List (Str × D)} {o : Option Bool} {b : Bool} {P : D → Env → Prop} (h : ρ[i]? = some (some (.pur (.exv a d fs)))) (e : o = some b) (p : P (.bl b) ρ) : Ev (dIsX a d i o) ρ P := ⟨_, _, by unfold dIsX; rw [isExv_self h, e], p⟩
theorem Ev_isXs {a : Addr} {d : Option Addr} {i : Nat} {fs : List (Str × D)} {os : List (Option Bool)} {b : Bool} {P : D → Env → Prop} (h : ρ[i]? = some (some (.pur (.exv a d fs)))) (e : allB os = some b) (p : P (.bl b) ρ) : Ev (dIsXs a d i os) ρ P := Ev_isX h e p
theorem Ev_exF {a : Addr} {d : Option Addr} {i : Nat} {f : Str} {fs : List (Str × D)} {o : Option Bool} {b : Bool} {v : D} {P : D → Env → Prop} (h : ρ[i]? = some (some (.pur (.exv a d fs)))) (e : o = some b) (l : fs.lookup f = some v) (p : P v ρ) : Ev (dExF a d i f o) ρ P := ⟨_, _, by unfold dExF; rw [isExv_self h, e]; simp only [l, Option.map_some], p⟩
end
end DL
set_option Elab.async false
set_option linter.all false
set_option maxRecDepth 100000
set_option maxHeartbeats 4000000
/-! A chain and its history. -/
namespace DL.Sh
open PySem PySem.Spec PyProof.Rows L2
/-- one step backwards -/
local macro_rules | `(tactic| walk_at "e1") => `(tactic| first
  | with_reducible refine S_next ?_ | with_reducible refine S_ret ?_ | with_reducible refine S_drop ?_ | with_reducible refine S_if ?_ | with_reducible refine S_for ?_
  | with_reducible refine Ev_C ?_ | with_reducible refine Ev_fz ?_ | with_reducible refine Ev_pur ?_ | with_reducible refine Ev_op2 ?_ | with_reducible refine Ev_top2 ?_ | with_reducible refine Ev_op1 ?_ | with_reducible refine Ev_val ?_
  | with_reducible refine Ev_tand ?_ | with_reducible refine Ev_tor ?_ | with_reducible refine Ev_tnot ?_ | with_reducible refine Ev_and ?_ | with_reducible refine Ev_or ?_ | with_reducible refine Ev_not ?_ | with_reducible refine Ev_if ?_
  | with_reducible refine Ev_anil ?_ | with_reducible refine Ev_acons ?_ | with_reducible refine Ev_eanil ?_ | with_reducible refine Ev_eacons ?_ | with_reducible refine Ev_call ?_ | with_reducible refine Ev_onone ?_ | with_reducible refine Ev_osome ?_
  | with_reducible refine Ev_sl ?_ | with_reducible refine Ev_esl ?_ | with_reducible refine Ev_eop2 ?_ | with_reducible refine Ev_eargs ?_ | with_reducible refine Ev_iseq ?_ | with_reducible refine Ev_iargs ?_ | with_reducible refine Ev_yes ?_
  | with_reducible refine Ev_chain ?_ | with_reducible refine Ev_tchain ?_
  | (with_reducible refine Ev_tbor ?_; simp only [frzE, Option.map_some, Option.map_none, O.fz, fzs, fzs_ints, fzs_purs])
  | (with_reducible refine Ev_bor ?_; simp only [frzE, Option.map_some, Option.map_none, O.fz, fzs, fzs_ints, fzs_purs])
  | ((with_reducible show (if (!true) = true then _ else _)); rw [if_neg (by decide)]) | ((with_reducible show (if (!false) = true then _ else _)); rw [if_pos (by decide)])
  | with_reducible refine Ev_call1 ?_ | ((with_reducible show (if true = true then _ else _)); rw [if_pos rfl]) | ((with_reducible show (if false = true then _ else _)); rw [if_neg Bool.false_ne_true])
  | ((with_reducible show Ev (dVar _) _ _); refine Ev_var rfl ?_)
  | ((with_reducible show Ev (eMove _) _ _); refine Ev_move rfl ?_; (try simp only [List.set_cons_zero, List.set_cons_succ]))
  | ((with_reducible refine S_set ?_))
  | (with_reducible refine S_asg ?_)
  | ((with_reducible refine Ev_tup ?_)) | ((with_reducible refine Ev_lst ?_)) | ((with_reducible refine Ev_elst ?_)) | ((with_reducible refine Ev_etup ?_))
  | ((with_reducible show ∃ _, powD _ _ = some _ ∧ _); refine ⟨_, pow18, ?_⟩) | ((with_reducible show ∃ _, powD _ _ = some _ ∧ _); refine ⟨_, rfl, ?_⟩; simp only [Int.reduceToNat, Int.reducePow]) | ((with_reducible show ∃ _, addD _ _ = some _ ∧ _); refine ⟨_, add_ii _ _, ?_⟩) | ((with_reducible show ∃ _, eqD _ _ = some _ ∧ _); refine ⟨_, eq_dec _ _, ?_⟩) | ((with_reducible show ∃ _, neD _ _ = some _ ∧ _); refine ⟨_, ne_dec _ _, ?_⟩) | ((with_reducible show ∃ _, ltD _ _ = some _ ∧ _); refine ⟨_, lt_dec _ _, ?_⟩) | ((with_reducible show ∃ _, leD _ _ = some _ ∧ _); refine ⟨_, le_dec _ _, ?_⟩) | ((with_reducible show ∃ _, gtD _ _ = some _ ∧ _); refine ⟨_, gt_dec _ _, ?_⟩) | ((with_reducible show ∃ _, geD _ _ = some _ ∧ _); refine ⟨_, ge_dec _ _, ?_⟩) | ((with_reducible show ∃ _, subD _ _ = some _ ∧ _); refine ⟨_, sub_ii _ _, ?_⟩) | ((with_reducible show ∃ _, negD _ = some _ ∧ _); refine ⟨_, neg_i _, ?_⟩)
  | ((with_reducible show ∃ _, mulD _ _ = some _ ∧ _); refine ⟨_, mul_ii (by omega), ?_⟩) | ((with_reducible show ∃ _, modD _ _ = some _ ∧ _); refine ⟨_, mod_ii (by omega), ?_⟩) | ((with_reducible show ∃ _, divD _ _ = some _ ∧ _); refine ⟨_, div_ii (by omega) (by omega), ?_⟩)
  | ((with_reducible show ∃ _, mixE _ _ _ = some _ ∧ _); refine ⟨_, mix_nil rfl, ?_⟩)
  | ((with_reducible show _ < List.length _ ∧ _); refine ⟨of_decide_eq_true rfl, ?_⟩; (try simp only [List.set_cons_zero, List.set_cons_succ, O.fz, fzs_ints, fzs_purs, keepE_cons, keepE_nil, wipeE]))
  | ((with_reducible show (_ < List.length _ ∧ _) ∧ _); refine ⟨of_decide_eq_true rfl, ?_⟩; (try simp only [List.set_cons_zero, List.set_cons_succ, O.fz, fzs_ints, fzs_purs, keepE_cons, keepE_nil, wipeE]))
  | ((with_reducible show List.length _ ≤ 1000 ∧ _); refine ⟨of_decide_eq_true rfl, ?_⟩; (try simp only [List.set_cons_zero, List.set_cons_succ, O.fz, fzs_ints, fzs_purs, keepE_cons, keepE_nil, wipeE]))
  | ((with_reducible show flatO _ = true ∧ _); refine ⟨rfl, ?_⟩)
  | ((with_reducible show Ev (eaLate _ _) _ _); refine Ev_late rfl ?_)
  | with_reducible refine S_setIx ?_
  | ((with_reducible show EvS (sAugIx _ _ _ _) _ _ _ _ _); refine S_augIx rfl ?_)
  | ((with_reducible show EvS (sAug _ _ _) _ _ _ _ _); refine S_aug rfl ?_)
  | ((with_reducible show ∃ a b c, _ = D.int a ∧ _ ∧ _ ∧ _); refine ⟨_, _, _, rfl, rfl, rfl, ?_⟩; simp only [List.set_cons_zero, List.set_cons_succ, Int.toNat_ofNat, Int.reduceToNat])
  | ((with_reducible show ∃ a b c, _ = D.int a ∧ _ ∧ _ ∧ _); refine ⟨_, _, _, rfl, rfl, rfl, ?_⟩)
  | ((with_reducible show ∃ _, ixD _ _ = some _ ∧ _); refine ⟨_, rfl, ?_⟩)
  | ((with_reducible show ∃ _, lenD _ = some _ ∧ _); refine ⟨_, rfl, ?_⟩)
  | ((with_reducible show ∃ _, absD _ = some _ ∧ _); refine ⟨_, rfl, ?_⟩)
  | ((with_reducible show ∃ _, itemsD _ = some _ ∧ _); refine ⟨_, rfl, ?_⟩)
  | ((with_reducible show ∃ _, tupleD _ = some _ ∧ _); refine ⟨_, rfl, ?_⟩)
  | ((with_reducible show ∃ _, listD _ = some _ ∧ _); refine ⟨_, rfl, ?_⟩)
  | ((with_reducible show ∃ _, listL _ = some _ ∧ _); refine ⟨_, rfl, ?_⟩)
  | ((with_reducible show ∃ _, toIntD _ = some _ ∧ _); refine ⟨_, rfl, ?_⟩)
  | ((with_reducible show ∃ _, isD _ _ = some _ ∧ _); refine ⟨_, rfl, ?_⟩)
  | ((with_reducible show ∃ _, isNotD _ _ = some _ ∧ _); refine ⟨_, rfl, ?_⟩)
  | ((with_reducible show ∃ _, takeS _ _ = some _ ∧ _); refine ⟨_, rfl, ?_⟩)
  | ((with_reducible show ∃ _, fName _ _ _ = some _ ∧ _); refine ⟨_, rfl, ?_⟩; (try simp only [List.set_cons_zero, List.set_cons_succ]))
  | ((with_reducible show ∃ _, fTup _ _ _ _ = some _ ∧ _); refine ⟨_, rfl, ?_⟩; (try simp only [List.set_cons_zero, List.set_cons_succ]))
  | ((with_reducible show ∃ _, slD _ _ _ = some _ ∧ _); refine ⟨_, rfl, ?_⟩)
  | ((with_reducible show ∃ _, slL _ _ _ = some _ ∧ _); refine ⟨_, rfl, ?_⟩)
  | ((with_reducible show ∃ _, List.set _ _ _ = some _ ∧ _); refine ⟨_, rfl, ?_⟩)
  | ((with_reducible show ∃ _, getElem? _ _ = some _ ∧ _); refine ⟨_, rfl, ?_⟩)
  | ((with_reducible show ∃ _, rangeD1 [D.int (Nat.cast _)] = some _ ∧ _); refine ⟨_, range_nat (by omega), ?_⟩) | ((with_reducible show ∃ _, rangeD1 _ = some _ ∧ _); refine ⟨_, range_lit (by omega) (by omega), ?_⟩)
  | ((with_reducible show ∃ _, _ = D.int _ ∧ _); refine ⟨_, rfl, ?_⟩)
  | ((with_reducible show ∃ _, maxD [D.int _, D.int _] = some _ ∧ _); refine ⟨_, rfl, ?_⟩) | ((with_reducible show ∃ _, minD [D.int _, D.int _] = some _ ∧ _); refine ⟨_, rfl, ?_⟩)
  | ((with_reducible show ∃ _, truD _ = some _ ∧ _); refine ⟨_, rfl, ?_⟩)
  | ((with_reducible show ∃ _, _ = D.bl _ ∧ _); refine ⟨_, rfl, ?_⟩)
  | ((with_reducible show ∃ _, neD (.str _) (.str _) = some _ ∧ _); refine ⟨_, ne_str _, ?_⟩) | ((with_reducible show ∃ _, eqD (.str _) (.str _) = some _ ∧ _); refine ⟨_, eq_str _, ?_⟩))
local macro_rules | `(tactic| walk_at "e") => `(tactic| repeat walk_at "e1")
local macro_rules | `(tactic| walk_at "s") => `(tactic| repeat (first | with_reducible refine S_seq ?_ | walk_at "e1"))
local macro_rules | `(tactic| walk_at "n") => `(tactic| try simp only [List.set_cons_zero, List.set_cons_succ, O.fz, fzs_ints, fzs_purs, keepE_cons, keepE_nil, wipeE])
local macro_rules | `(tactic| walk_at "e1") => `(tactic| ((with_reducible show Ev (eCall f_law_take _ _) _ _); refine Ev_take rfl (by assumption) ?_; (try simp only [List.set_cons_zero, List.set_cons_succ])))
local macro_rules | `(tactic| walk_at "e1") => `(tactic| ((with_reducible show ∀ _ _, _ → _ → BagOk _ → _); intro r o' h1 h2 hb; (try simp only [List.set_cons_zero, List.set_cons_succ, O.fz])))
local macro_rules | `(tactic| walk_at "e1") => `(tactic| ((with_reducible show _ < _ ∧ _); refine ⟨by omega, ?_⟩))
local macro_rules | `(tactic| walk_at "e1") => `(tactic| ((with_reducible show Ev (eCall f_law_size _ _) _ _); refine Ev_size rfl (by assumption) ?_; (try simp only [List.set_cons_zero, List.set_cons_succ])))
local macro_rules | `(tactic| walk_at "e1") => `(tactic| ((with_reducible show ∃ _, lenD [D.lst (rowsD _)] = some _ ∧ _); refine ⟨_, rfl, ?_⟩; rw [rowsD_len]))
local macro_rules | `(tactic| walk_at "e1") => `(tactic| ((with_reducible show ∃ _, isaD _ = some _ ∧ _); refine ⟨_, rfl, ?_⟩))
local macro_rules | `(tactic| walk_at "e1") => `(tactic| ((with_reducible show ∃ _, rangeD1 [D.int (_ + 1)] = some _ ∧ _); refine ⟨_, range_succ' (by omega), ?_⟩))
local macro_rules | `(tactic| walk_at "e1") => `(tactic| ((with_reducible show ∃ _, rangeD1 [D.int (1 + _)] = some _ ∧ _); refine ⟨_, range_one_add (by omega) (by omega), ?_⟩))
local macro_rules | `(tactic| walk_at "e1") => `(tactic| ((with_reducible show EvS (sFrz _ _) _ _ _ _ _); refine S_frz rfl ?_; (try simp only [List.set_cons_zero, List.set_cons_succ, O.fz, fzs, fzs_ints, fzs_purs])))
local macro_rules | `(tactic| walk_at "e1") => `(tactic| first | with_reducible refine S_par2 ?_ | with_reducible refine S_par3 ?_)
local macro_rules | `(tactic| walk_at "e1") => `(tactic| ((with_reducible show ∃ o1 o2 : O, _ = [o1, o2] ∧ _); refine ⟨_, _, rfl, ?_⟩))
local macro_rules | `(tactic| walk_at "e1") => `(tactic| ((with_reducible show ∃ o1 o2 o3 : O, _ = [o1, o2, o3] ∧ _); refine ⟨_, _, _, rfl, ?_⟩))
local macro_rules | `(tactic| walk_at "e1") => `(tactic| ((with_reducible show (_ < List.length _ ∧ _ < List.length _ ∧ _ < List.length _) ∧ _); refine ⟨of_decide_eq_true rfl, ?_⟩; (try simp only [List.set_cons_zero, List.set_cons_succ, O.fz, fzs_ints, fzs_purs, keepE_cons, keepE_nil, wipeE])))
local macro_rules | `(tactic| walk_at "e1") => `(tactic| first
  | ((with_reducible show Ev (eMCallD _ _ _ _ _) _ _); refine Ev_mcallD (fun _ _ _ h => runB_nil h) ?_)
  | ((with_reducible show Ev (eMCallK _ _ _ _ _ _) _ _); refine Ev_mcallK (fun _ _ _ h => runB_nil h) ?_)
  | ((with_reducible show Ev (eCallK _ _ _) _ _); refine Ev_callK (fun _ _ _ h => runB_nil h) ?_)
  | with_reducible refine Ev_make ?_
  | ((with_reducible show ∃ _, fldD "Endless" "wide" (endD _ _) = some _ ∧ _); refine ⟨_, end_wide, ?_⟩)
  | ((with_reducible show ∃ _, fldD "Endless" "rows" (endD _ _) = some _ ∧ _); refine ⟨_, end_rows, ?_⟩)
  | ((with_reducible show ∃ _, fldD "Endless" "sums" (endD _ _) = some _ ∧ _); refine ⟨_, end_sums, ?_⟩)
  | ((with_reducible show isIns _ _ (endD _ _) = true ∧ _); refine ⟨rfl, ?_⟩)
  | ((with_reducible show ∃ _, divmodD [D.int _, D.int _] = some _ ∧ _); refine ⟨_, divmod_ii (by omega) (by omega), ?_⟩)
  | ((with_reducible show ∃ _, lenD [mapL _ _] = some _ ∧ _); refine ⟨_, mapL_len, ?_⟩)
  | ((with_reducible show ∃ _, itemsD (mapL _ _) = some _ ∧ _); refine ⟨_, mapL_items, ?_⟩)
  | ((with_reducible show (if isNon (D.int _) = true then _ else _)); rw [if_neg (show ¬ (isNon (D.int _) = true) from Bool.false_ne_true)])
  | ((with_reducible show (if isNon D.non = true then _ else _)); rw [if_pos (show isNon D.non = true from rfl)])
  | ((with_reducible show (if (!isNon (D.int _)) = true then _ else _)); rw [if_pos (show (!isNon (D.int _)) = true from rfl)])
  | ((with_reducible show (if (!isNon D.non) = true then _ else _)); rw [if_neg (show ¬ ((!isNon D.non) = true) from Bool.false_ne_true)])
  | ((with_reducible show (if isNon (mapL _ _) = true then _ else _)); rw [if_neg (show ¬ (isNon (mapL _ _) = true) from Bool.false_ne_true)])
  | ((with_reducible show (if isNon (jD none) = true then _ else _)); rw [if_pos (show isNon (jD none) = true from rfl)])
  | ((with_reducible show (if isNon (jD (some _)) = true then _ else _)); rw [if_neg (show ¬ (isNon (jD (some _)) = true) from Bool.false_ne_true)])
  | ((with_reducible show (if (!isNon (jD none)) = true then _ else _)); rw [if_neg (show ¬ ((!isNon (jD none)) = true) from Bool.false_ne_true)])
  | ((with_reducible show (if (!isNon (jD (some _))) = true then _ else _)); rw [if_pos (show (!isNon (jD (some _))) = true from rfl)])
  | with_reducible refine Ev_methT ?_)
local macro_rules | `(tactic| walk_at "e1") => `(tactic| first
  | ((with_reducible show EvS (sTupO _ _) _ _ _ _ _); refine S_tupO ?_)
  | ((with_reducible show Ev eDNew _ _); refine Ev_dnew ?_)
  | ((with_reducible show Ev (eMCallI _ _ _ _ false _ _) _ _); refine Ev_mcallI rfl (Ev_recvN ?_))
  | ((with_reducible show Ev (eMCallI _ _ _ _ true _ _) _ _); refine Ev_mcallI rfl (Ev_recvL ?_))
  | ((with_reducible show ∃ os : List O, O.tup _ = O.tup os ∧ _ ∧ _ ∧ _); refine ⟨_, rfl, rfl, of_decide_eq_true rfl, ?_⟩; simp only [setAll, List.set_cons_zero, List.set_cons_succ])
  | ((with_reducible show isIns _ _ (chD _ _ _ _ _ _ _) = true ∧ _); refine ⟨rfl, ?_⟩))
local macro_rules | `(tactic| walk_at "e1") => `(tactic| first
  | ((with_reducible show ∃ _, fldD "Chain" "firsts" (chD _ _ _ _ _ _ _) = some _ ∧ _); refine ⟨_, ch_firsts, ?_⟩)
  | ((with_reducible show ∃ _, fldD "Chain" "entries" (chD _ _ _ _ _ _ _) = some _ ∧ _); refine ⟨_, ch_entries, ?_⟩)
  | ((with_reducible show ∃ _, fldD "Chain" "rows" (chD _ _ _ _ _ _ _) = some _ ∧ _); refine ⟨_, ch_rows, ?_⟩)
  | ((with_reducible show ∃ _, fldD "Chain" "sums" (chD _ _ _ _ _ _ _) = some _ ∧ _); refine ⟨_, ch_sums, ?_⟩)
  | ((with_reducible show ∃ _, fldD "Chain" "wide" (chD _ _ _ _ _ _ _) = some _ ∧ _); refine ⟨_, ch_wide, ?_⟩))
local macro_rules | `(tactic| walk_at "e1") => `(tactic| first
  | with_reducible refine X_lift ?_ | with_reducible refine X_seq ?_ | with_reducible refine X_if ?_ | with_reducible refine X_ret ?_ | with_reducible refine X_drop ?_ | with_reducible refine X_set ?_ | with_reducible refine X_asg ?_
  | with_reducible refine X_raise1 ?_ | with_reducible refine X_raise0 ?_ | with_reducible refine M_fz ?_ | with_reducible refine M_of ?_ | with_reducible refine M_tup2 ?_ | with_reducible refine M_call ?_ | with_reducible refine S_tryO ?_ | with_reducible refine X_tryO ?_ | with_reducible refine X_for ?_ | with_reducible refine Ev_ifO ?_
  | ((with_reducible show EvM (eMCallX _ _ _ _ false _ _) _ _ _); refine M_mcall rfl (M_call (Ev_recvN ?_)))
  | ((with_reducible show EvM (eMCallX _ _ _ _ true _ _) _ _ _); refine M_mcall rfl (M_call (Ev_recvL ?_))))
def ChS.init (ts : List (Nat × Int)) : ChS := ⟨[], ts, List.replicate ts.length 0, []⟩
def playS (s : ChS) : List Deed → ChS
  | [] => s
  | d :: ds => playS (s.go d) ds
def ChS.row (s : ChS) (d : Deed) : DL.D := (pastO (dD d) s.rows s.ts s.fs s.ps).fz
def pastD (s : ChS) : List Deed → List D
  | [] => []
  | d :: ds => s.row d :: pastD (s.go d) ds
def canL (w : Nat) (s : ChS) : List Deed → Prop
  | [] => True
  | d :: ds => s.can w d ∧ canL w (s.go d) ds
theorem canL_app {w : Nat} : ∀ {a b : List Deed} {s : ChS}, canL w s (a ++ b) ↔ canL w s a ∧ canL w (playS s a) b
  | [], b, s => by show canL w s b ↔ True ∧ canL w s b; simp
  | d :: a, b, s => by
    show (s.can w d ∧ canL w (s.go d) (a ++ b)) ↔ (s.can w d ∧ canL w (s.go d) a) ∧ _
    rw [canL_app (a := a), and_assoc]; rfl
theorem playS_ok {w : Nat} : ∀ {a : List Deed} {s : ChS}, s.Ok w → canL w s a → (playS s a).Ok w
  | [], _, h, _ => h
  | _ :: a, _, h, c => playS_ok (a := a) (ChS.go_ok h c.1) c.2
/-- a chain with its history: the first tiers, the deeds that stand, the deeds that can be done again (the next one first) -/
structure Hs where
  ts : List (Nat × Int)
  ds : List Deed
  la : List Deed
def Hs.st (h : Hs) : ChS := playS (.init h.ts) h.ds
def Hs.lD (h : Hs) : List DL.D := h.la.reverse.map dD
def Hs.pD (h : Hs) : List DL.D := pastD (.init h.ts) h.ds
def Hs.D (h : Hs) (w : Nat) : DL.D := h.st.D w h.pD h.lD
def IsH (w : Nat) (h : Hs) (o : O) : Prop := ∃ P, fzs P = h.pD ∧ o = h.st.O w P (h.lD.map .pur)
structure Hs.Ok (h : Hs) (w : Nat) : Prop where
  w1 : 1 ≤ w
  w4 : w ≤ 4
  ini : (ChS.init h.ts).Ok w
  can : canL w (.init h.ts) (h.ds ++ h.la)
  len : h.ds.length + h.la.length ≤ 20000
theorem IsH.fz {w : Nat} {h : Hs} {o : O} (k : IsH w h o) : o.fz = h.D w := by
  obtain ⟨P, e, rfl⟩ := k
  unfold ChS.O
  rw [chO_fz, fzs_purs, e]; rfl
theorem Hs.Ok.st {h : Hs} {w : Nat} (k : h.Ok w) : h.st.Ok w := playS_ok k.ini (canL_app.mp k.can).1
end DL.Sh
set_option Elab.async false
set_option linter.all false
set_option maxRecDepth 100000
set_option maxHeartbeats 4000000
/-! Drawn deeds. -/
namespace DL.Sh
open PySem PySem.Spec PyProof.Rows L2
/-- one step backwards -/
local macro_rules | `(tactic| walk_at "e1") => `(tactic| first
  | with_reducible refine S_next ?_ | with_reducible refine S_ret ?_ | with_reducible refine S_drop ?_ | with_reducible refine S_if ?_ | with_reducible refine S_for ?_
  | with_reducible refine Ev_C ?_ | with_reducible refine Ev_fz ?_ | with_reducible refine Ev_pur ?_ | with_reducible refine Ev_op2 ?_ | with_reducible refine Ev_top2 ?_ | with_reducible refine Ev_op1 ?_ | with_reducible refine Ev_val ?_
  | with_reducible refine Ev_tand ?_ | with_reducible refine Ev_tor ?_ | with_reducible refine Ev_tnot ?_ | with_reducible refine Ev_and ?_ | with_reducible refine Ev_or ?_ | with_reducible refine Ev_not ?_ | with_reducible refine Ev_if ?_
  | with_reducible refine Ev_anil ?_ | with_reducible refine Ev_acons ?_ | with_reducible refine Ev_eanil ?_ | with_reducible refine Ev_eacons ?_ | with_reducible refine Ev_call ?_ | with_reducible refine Ev_onone ?_ | with_reducible refine Ev_osome ?_
  | with_reducible refine Ev_sl ?_ | with_reducible refine Ev_esl ?_ | with_reducible refine Ev_eop2 ?_ | with_reducible refine Ev_eargs ?_ | with_reducible refine Ev_iseq ?_ | with_reducible refine Ev_iargs ?_ | with_reducible refine Ev_yes ?_
  | with_reducible refine Ev_chain ?_ | with_reducible refine Ev_tchain ?_
  | (with_reducible refine Ev_tbor ?_; simp only [frzE, Option.map_some, Option.map_none, O.fz, fzs, fzs_ints, fzs_purs])
  | (with_reducible refine Ev_bor ?_; simp only [frzE, Option.map_some, Option.map_none, O.fz, fzs, fzs_ints, fzs_purs])
  | ((with_reducible show (if (!true) = true then _ else _)); rw [if_neg (by decide)]) | ((with_reducible show (if (!false) = true then _ else _)); rw [if_pos (by decide)])
  | with_reducible refine Ev_call1 ?_ | ((with_reducible show (if true = true then _ else _)); rw [if_pos rfl]) | ((with_reducible show (if false = true then _ else _)); rw [if_neg Bool.false_ne_true])
  | ((with_reducible show Ev (dVar _) _ _); refine Ev_var rfl ?_)
  | ((with_reducible show Ev (eMove _) _ _); refine Ev_move rfl ?_; (try simp only [List.set_cons_zero, List.set_cons_succ]))
  | ((with_reducible refine S_set ?_))
  | (with_reducible refine S_asg ?_)
  | ((with_reducible refine Ev_tup ?_)) | ((with_reducible refine Ev_lst ?_)) | ((with_reducible refine Ev_elst ?_)) | ((with_reducible refine Ev_etup ?_))
  | ((with_reducible show ∃ _, powD _ _ = some _ ∧ _); refine ⟨_, pow18, ?_⟩) | ((with_reducible show ∃ _, powD _ _ = some _ ∧ _); refine ⟨_, rfl, ?_⟩; simp only [Int.reduceToNat, Int.reducePow]) | ((with_reducible show ∃ _, addD _ _ = some _ ∧ _); refine ⟨_, add_ii _ _, ?_⟩) | ((with_reducible show ∃ _, eqD _ _ = some _ ∧ _); refine ⟨_, eq_dec _ _, ?_⟩) | ((with_reducible show ∃ _, neD _ _ = some _ ∧ _); refine ⟨_, ne_dec _ _, ?_⟩) | ((with_reducible show ∃ _, ltD _ _ = some _ ∧ _); refine ⟨_, lt_dec _ _, ?_⟩) | ((with_reducible show ∃ _, leD _ _ = some _ ∧ _); refine ⟨_, le_dec _ _, ?_⟩) | ((with_reducible show ∃ _, gtD _ _ = some _ ∧ _); refine ⟨_, gt_dec _ _, ?_⟩) | ((with_reducible show ∃ _, geD _ _ = some _ ∧ _); refine ⟨_, ge_dec _ _, ?_⟩) | ((with_reducible show ∃ _, subD _ _ = some _ ∧ _); refine ⟨_, sub_ii _ _, ?_⟩) | ((with_reducible show ∃ _, negD _ = some _ ∧ _); refine ⟨_, neg_i _, ?_⟩)
  | ((with_reducible show ∃ _, mulD _ _ = some _ ∧ _); refine ⟨_, mul_ii (by omega), ?_⟩) | ((with_reducible show ∃ _, modD _ _ = some _ ∧ _); refine ⟨_, mod_ii (by omega), ?_⟩) | ((with_reducible show ∃ _, divD _ _ = some _ ∧ _); refine ⟨_, div_ii (by omega) (by omega), ?_⟩)
  | ((with_reducible show ∃ _, mixE _ _ _ = some _ ∧ _); refine ⟨_, mix_nil rfl, ?_⟩)
  | ((with_reducible show _ < List.length _ ∧ _); refine ⟨of_decide_eq_true rfl, ?_⟩; (try simp only [List.set_cons_zero, List.set_cons_succ, O.fz, fzs_ints, fzs_purs, keepE_cons, keepE_nil, wipeE]))
  | ((with_reducible show (_ < List.length _ ∧ _) ∧ _); refine ⟨of_decide_eq_true rfl, ?_⟩; (try simp only [List.set_cons_zero, List.set_cons_succ, O.fz, fzs_ints, fzs_purs, keepE_cons, keepE_nil, wipeE]))
  | ((with_reducible show List.length _ ≤ 1000 ∧ _); refine ⟨of_decide_eq_true rfl, ?_⟩; (try simp only [List.set_cons_zero, List.set_cons_succ, O.fz, fzs_ints, fzs_purs, keepE_cons, keepE_nil, wipeE]))
  | ((with_reducible show flatO _ = true ∧ _); refine ⟨rfl, ?_⟩)
  | ((with_reducible show Ev (eaLate _ _) _ _); refine Ev_late rfl ?_)
  | with_reducible refine S_setIx ?_
  | ((with_reducible show EvS (sAugIx _ _ _ _) _ _ _ _ _); refine S_augIx rfl ?_)
  | ((with_reducible show EvS (sAug _ _ _) _ _ _ _ _); refine S_aug rfl ?_)
  | ((with_reducible show ∃ a b c, _ = D.int a ∧ _ ∧ _ ∧ _); refine ⟨_, _, _, rfl, rfl, rfl, ?_⟩; simp only [List.set_cons_zero, List.set_cons_succ, Int.toNat_ofNat, Int.reduceToNat])
  | ((with_reducible show ∃ a b c, _ = D.int a ∧ _ ∧ _ ∧ _); refine ⟨_, _, _, rfl, rfl, rfl, ?_⟩)
  | ((with_reducible show ∃ _, ixD _ _ = some _ ∧ _); refine ⟨_, rfl, ?_⟩)
  | ((with_reducible show ∃ _, lenD _ = some _ ∧ _); refine ⟨_, rfl, ?_⟩)
  | ((with_reducible show ∃ _, absD _ = some _ ∧ _); refine ⟨_, rfl, ?_⟩)
  | ((with_reducible show ∃ _, itemsD _ = some _ ∧ _); refine ⟨_, rfl, ?_⟩)
  | ((with_reducible show ∃ _, tupleD _ = some _ ∧ _); refine ⟨_, rfl, ?_⟩)
  | ((with_reducible show ∃ _, listD _ = some _ ∧ _); refine ⟨_, rfl, ?_⟩)
  | ((with_reducible show ∃ _, listL _ = some _ ∧ _); refine ⟨_, rfl, ?_⟩)
  | ((with_reducible show ∃ _, toIntD _ = some _ ∧ _); refine ⟨_, rfl, ?_⟩)
  | ((with_reducible show ∃ _, isD _ _ = some _ ∧ _); refine ⟨_, rfl, ?_⟩)
  | ((with_reducible show ∃ _, isNotD _ _ = some _ ∧ _); refine ⟨_, rfl, ?_⟩)
  | ((with_reducible show ∃ _, takeS _ _ = some _ ∧ _); refine ⟨_, rfl, ?_⟩)
  | ((with_reducible show ∃ _, fName _ _ _ = some _ ∧ _); refine ⟨_, rfl, ?_⟩; (try simp only [List.set_cons_zero, List.set_cons_succ]))
  | ((with_reducible show ∃ _, fTup _ _ _ _ = some _ ∧ _); refine ⟨_, rfl, ?_⟩; (try simp only [List.set_cons_zero, List.set_cons_succ]))
  | ((with_reducible show ∃ _, slD _ _ _ = some _ ∧ _); refine ⟨_, rfl, ?_⟩)
  | ((with_reducible show ∃ _, slL _ _ _ = some _ ∧ _); refine ⟨_, rfl, ?_⟩)
  | ((with_reducible show ∃ _, List.set _ _ _ = some _ ∧ _); refine ⟨_, rfl, ?_⟩)
  | ((with_reducible show ∃ _, getElem? _ _ = some _ ∧ _); refine ⟨_, rfl, ?_⟩)
  | ((with_reducible show ∃ _, rangeD1 [D.int (Nat.cast _)] = some _ ∧ _); refine ⟨_, range_nat (by omega), ?_⟩) | ((with_reducible show ∃ _, rangeD1 _ = some _ ∧ _); refine ⟨_, range_lit (by omega) (by omega), ?_⟩)
  | ((with_reducible show ∃ _, _ = D.int _ ∧ _); refine ⟨_, rfl, ?_⟩)
  | ((with_reducible show ∃ _, maxD [D.int _, D.int _] = some _ ∧ _); refine ⟨_, rfl, ?_⟩) | ((with_reducible show ∃ _, minD [D.int _, D.int _] = some _ ∧ _); refine ⟨_, rfl, ?_⟩)
  | ((with_reducible show ∃ _, truD _ = some _ ∧ _); refine ⟨_, rfl, ?_⟩)
  | ((with_reducible show ∃ _, _ = D.bl _ ∧ _); refine ⟨_, rfl, ?_⟩)
  | ((with_reducible show ∃ _, neD (.str _) (.str _) = some _ ∧ _); refine ⟨_, ne_str _, ?_⟩) | ((with_reducible show ∃ _, eqD (.str _) (.str _) = some _ ∧ _); refine ⟨_, eq_str _, ?_⟩))
local macro_rules | `(tactic| walk_at "e") => `(tactic| repeat walk_at "e1")
local macro_rules | `(tactic| walk_at "s") => `(tactic| repeat (first | with_reducible refine S_seq ?_ | walk_at "e1"))
local macro_rules | `(tactic| walk_at "n") => `(tactic| try simp only [List.set_cons_zero, List.set_cons_succ, O.fz, fzs_ints, fzs_purs, keepE_cons, keepE_nil, wipeE])
local macro_rules | `(tactic| walk_at "e1") => `(tactic| ((with_reducible show Ev (eCall f_law_take _ _) _ _); refine Ev_take rfl (by assumption) ?_; (try simp only [List.set_cons_zero, List.set_cons_succ])))
local macro_rules | `(tactic| walk_at "e1") => `(tactic| ((with_reducible show ∀ _ _, _ → _ → BagOk _ → _); intro r o' h1 h2 hb; (try simp only [List.set_cons_zero, List.set_cons_succ, O.fz])))
local macro_rules | `(tactic| walk_at "e1") => `(tactic| ((with_reducible show _ < _ ∧ _); refine ⟨by omega, ?_⟩))
local macro_rules | `(tactic| walk_at "e1") => `(tactic| ((with_reducible show Ev (eCall f_law_size _ _) _ _); refine Ev_size rfl (by assumption) ?_; (try simp only [List.set_cons_zero, List.set_cons_succ])))
local macro_rules | `(tactic| walk_at "e1") => `(tactic| ((with_reducible show ∃ _, lenD [D.lst (rowsD _)] = some _ ∧ _); refine ⟨_, rfl, ?_⟩; rw [rowsD_len]))
local macro_rules | `(tactic| walk_at "e1") => `(tactic| ((with_reducible show ∃ _, isaD _ = some _ ∧ _); refine ⟨_, rfl, ?_⟩))
local macro_rules | `(tactic| walk_at "e1") => `(tactic| ((with_reducible show ∃ _, rangeD1 [D.int (_ + 1)] = some _ ∧ _); refine ⟨_, range_succ' (by omega), ?_⟩))
local macro_rules | `(tactic| walk_at "e1") => `(tactic| ((with_reducible show ∃ _, rangeD1 [D.int (1 + _)] = some _ ∧ _); refine ⟨_, range_one_add (by omega) (by omega), ?_⟩))
local macro_rules | `(tactic| walk_at "e1") => `(tactic| ((with_reducible show EvS (sFrz _ _) _ _ _ _ _); refine S_frz rfl ?_; (try simp only [List.set_cons_zero, List.set_cons_succ, O.fz, fzs, fzs_ints, fzs_purs])))
local macro_rules | `(tactic| walk_at "e1") => `(tactic| first | with_reducible refine S_par2 ?_ | with_reducible refine S_par3 ?_)
local macro_rules | `(tactic| walk_at "e1") => `(tactic| ((with_reducible show ∃ o1 o2 : O, _ = [o1, o2] ∧ _); refine ⟨_, _, rfl, ?_⟩))
local macro_rules | `(tactic| walk_at "e1") => `(tactic| ((with_reducible show ∃ o1 o2 o3 : O, _ = [o1, o2, o3] ∧ _); refine ⟨_, _, _, rfl, ?_⟩))
local macro_rules | `(tactic| walk_at "e1") => `(tactic| ((with_reducible show (_ < List.length _ ∧ _ < List.length _ ∧ _ < List.length _) ∧ _); refine ⟨of_decide_eq_true rfl, ?_⟩; (try simp only [List.set_cons_zero, List.set_cons_succ, O.fz, fzs_ints, fzs_purs, keepE_cons, keepE_nil, wipeE])))
local macro_rules | `(tactic| walk_at "e1") => `(tactic| first
  | ((with_reducible show Ev (eMCallD _ _ _ _ _) _ _); refine Ev_mcallD (fun _ _ _ h => runB_nil h) ?_)
  | ((with_reducible show Ev (eMCallK _ _ _ _ _ _) _ _); refine Ev_mcallK (fun _ _ _ h => runB_nil h) ?_)
  | ((with_reducible show Ev (eCallK _ _ _) _ _); refine Ev_callK (fun _ _ _ h => runB_nil h) ?_)
  | with_reducible refine Ev_make ?_
  | ((with_reducible show ∃ _, fldD "Endless" "wide" (endD _ _) = some _ ∧ _); refine ⟨_, end_wide, ?_⟩)
  | ((with_reducible show ∃ _, fldD "Endless" "rows" (endD _ _) = some _ ∧ _); refine ⟨_, end_rows, ?_⟩)
  | ((with_reducible show ∃ _, fldD "Endless" "sums" (endD _ _) = some _ ∧ _); refine ⟨_, end_sums, ?_⟩)
  | ((with_reducible show isIns _ _ (endD _ _) = true ∧ _); refine ⟨rfl, ?_⟩)
  | ((with_reducible show ∃ _, divmodD [D.int _, D.int _] = some _ ∧ _); refine ⟨_, divmod_ii (by omega) (by omega), ?_⟩)
  | ((with_reducible show ∃ _, lenD [mapL _ _] = some _ ∧ _); refine ⟨_, mapL_len, ?_⟩)
  | ((with_reducible show ∃ _, itemsD (mapL _ _) = some _ ∧ _); refine ⟨_, mapL_items, ?_⟩)
  | ((with_reducible show (if isNon (D.int _) = true then _ else _)); rw [if_neg (show ¬ (isNon (D.int _) = true) from Bool.false_ne_true)])
  | ((with_reducible show (if isNon D.non = true then _ else _)); rw [if_pos (show isNon D.non = true from rfl)])
  | ((with_reducible show (if (!isNon (D.int _)) = true then _ else _)); rw [if_pos (show (!isNon (D.int _)) = true from rfl)])
  | ((with_reducible show (if (!isNon D.non) = true then _ else _)); rw [if_neg (show ¬ ((!isNon D.non) = true) from Bool.false_ne_true)])
  | ((with_reducible show (if isNon (mapL _ _) = true then _ else _)); rw [if_neg (show ¬ (isNon (mapL _ _) = true) from Bool.false_ne_true)])
  | ((with_reducible show (if isNon (jD none) = true then _ else _)); rw [if_pos (show isNon (jD none) = true from rfl)])
  | ((with_reducible show (if isNon (jD (some _)) = true then _ else _)); rw [if_neg (show ¬ (isNon (jD (some _)) = true) from Bool.false_ne_true)])
  | ((with_reducible show (if (!isNon (jD none)) = true then _ else _)); rw [if_neg (show ¬ ((!isNon (jD none)) = true) from Bool.false_ne_true)])
  | ((with_reducible show (if (!isNon (jD (some _))) = true then _ else _)); rw [if_pos (show (!isNon (jD (some _))) = true from rfl)])
  | with_reducible refine Ev_methT ?_)
local macro_rules | `(tactic| walk_at "e1") => `(tactic| first
  | ((with_reducible show EvS (sTupO _ _) _ _ _ _ _); refine S_tupO ?_)
  | ((with_reducible show Ev eDNew _ _); refine Ev_dnew ?_)
  | ((with_reducible show Ev (eMCallI _ _ _ _ false _ _) _ _); refine Ev_mcallI rfl (Ev_recvN ?_))
  | ((with_reducible show Ev (eMCallI _ _ _ _ true _ _) _ _); refine Ev_mcallI rfl (Ev_recvL ?_))
  | ((with_reducible show ∃ os : List O, O.tup _ = O.tup os ∧ _ ∧ _ ∧ _); refine ⟨_, rfl, rfl, of_decide_eq_true rfl, ?_⟩; simp only [setAll, List.set_cons_zero, List.set_cons_succ])
  | ((with_reducible show isIns _ _ (chD _ _ _ _ _ _ _) = true ∧ _); refine ⟨rfl, ?_⟩))
local macro_rules | `(tactic| walk_at "e1") => `(tactic| first
  | ((with_reducible show ∃ _, fldD "Chain" "firsts" (chD _ _ _ _ _ _ _) = some _ ∧ _); refine ⟨_, ch_firsts, ?_⟩)
  | ((with_reducible show ∃ _, fldD "Chain" "entries" (chD _ _ _ _ _ _ _) = some _ ∧ _); refine ⟨_, ch_entries, ?_⟩)
  | ((with_reducible show ∃ _, fldD "Chain" "rows" (chD _ _ _ _ _ _ _) = some _ ∧ _); refine ⟨_, ch_rows, ?_⟩)
  | ((with_reducible show ∃ _, fldD "Chain" "sums" (chD _ _ _ _ _ _ _) = some _ ∧ _); refine ⟨_, ch_sums, ?_⟩)
  | ((with_reducible show ∃ _, fldD "Chain" "wide" (chD _ _ _ _ _ _ _) = some _ ∧ _); refine ⟨_, ch_wide, ?_⟩))
local macro_rules | `(tactic| walk_at "e1") => `(tactic| first
  | with_reducible refine X_lift ?_ | with_reducible refine X_seq ?_ | with_reducible refine X_if ?_ | with_reducible refine X_ret ?_ | with_reducible refine X_drop ?_ | with_reducible refine X_set ?_ | with_reducible refine X_asg ?_
  | with_reducible refine X_raise1 ?_ | with_reducible refine X_raise0 ?_ | with_reducible refine M_fz ?_ | with_reducible refine M_of ?_ | with_reducible refine M_tup2 ?_ | with_reducible refine M_call ?_ | with_reducible refine S_tryO ?_ | with_reducible refine X_tryO ?_ | with_reducible refine X_for ?_ | with_reducible refine Ev_ifO ?_
  | ((with_reducible show EvM (eMCallX _ _ _ _ false _ _) _ _ _); refine M_mcall rfl (M_call (Ev_recvN ?_)))
  | ((with_reducible show EvM (eMCallX _ _ _ _ true _ _) _ _ _); refine M_mcall rfl (M_call (Ev_recvL ?_))))
local macro_rules | `(tactic| walk_at "e1") => `(tactic| first
  | ((with_reducible show Ev (dIsX _ _ _ _) _ _); refine Ev_isX rfl rfl ?_)
  | ((with_reducible show Ev (dIsXs _ _ _ _) _ _); refine Ev_isXs rfl rfl ?_)
  | ((with_reducible show Ev (dExF _ _ _ _ _) _ _); refine Ev_exF rfl rfl rfl ?_))
def Hs.size (h : Hs) : Nat := h.ds.length + h.la.length
/-! law(_law_script); slots: 0 script, 1 bag*, 2 turn, 3 width, 4 log, 5 tiers, 6 handed*, 7 added, 8 chain*, 9 firsts*, 10 due, 11 found* -/
/-- what stays where nothing more can be trimmed -/
theorem trG_stop {xs : List Int} {lim : Int} {pn : List Nat} {s : Nat} : ∀ k f, trG xs lim pn s k f < f + k → ¬ (lim < DL.Sh.ps xs s - DL.Sh.ps xs (trG xs lim pn s k f) ∧ trG xs lim pn s k f ∉ pn)
  | 0, f, h => by
    have := (trG_ge (xs := xs) (lim := lim) (ps := pn) (s := s) 0 f).1
    omega
  | k + 1, f, h => by
    unfold trG at h ⊢
    split
    · rename_i q
      rw [if_pos q] at h
      exact trG_stop k (f + 1) (by omega)
    · rename_i q
      exact q
theorem tr1_twice {xs : List Int} {lim : Int} {pn : List Nat} {s f : Nat} (h : f ≤ s) : tr1 xs lim pn s (tr1 xs lim pn s f) = tr1 xs lim pn s f := by
  have hg := tr1_ge (xs := xs) (lim := lim) (ps := pn) h
  rcases Nat.lt_or_ge (tr1 xs lim pn s f) s with q | q
  · exact tr1_stop (trG_stop (s - f) f (by show tr1 xs lim pn s f < _; omega))
  · have e : tr1 xs lim pn s f = s := by omega
    rw [e]
    show trG xs lim pn s (s - s) s = s
    rw [Nat.sub_self]; rfl
theorem trimL_twice (rows : List (List Int)) (pn : List Nat) : ∀ (ts : List (Nat × Int)) (fs : List Nat) (s : Nat), Dsc s fs → trimL rows pn ts (trimL rows pn ts fs s) s = trimL rows pn ts fs s
  | [], [], s, _ => rfl
  | [], f :: fs, s, _ => rfl
  | t :: ts, [], s, _ => rfl
  | t :: ts, f :: fs, s, h => by
    show tr1 (col rows t.1) t.2 pn s (tr1 (col rows t.1) t.2 pn s f) :: trimL rows pn ts (trimL rows pn ts fs (tr1 (col rows t.1) t.2 pn s f)) (tr1 (col rows t.1) t.2 pn s (tr1 (col rows t.1) t.2 pn s f)) = _
    rw [tr1_twice h.1, trimL_twice rows pn ts fs _ (h.2.up (tr1_ge h.1).1)]
    rfl
theorem ChS.trim_twice {s : ChS} (h : Dsc s.rows.length s.fs) : s.trim.trim = s.trim := by
  unfold ChS.trim
  simp only
  rw [trimL_twice _ _ _ _ _ h]
theorem ChS.pre_dsc {s : ChS} {d : Deed} (h : Dsc s.rows.length s.fs) : Dsc (s.pre d).rows.length (s.pre d).fs := by
  cases d with
  | add row => exact h.up (by show _ ≤ (s.rows ++ [row]).length; simp)
  | rsz t l => exact h
  | pin n => exact h
  | rel n => exact h
theorem go_trim {s : ChS} {d : Deed} (h : Dsc s.rows.length s.fs) : (s.go d).trim = s.go d := ChS.trim_twice (ChS.pre_dsc h)
theorem init_trim : ∀ (ts : List (Nat × Int)), trimL [] [] ts (List.replicate ts.length 0) 0 = List.replicate ts.length 0
  | [] => rfl
  | t :: ts => by
    show tr1 (col [] t.1) t.2 [] 0 0 :: trimL [] [] ts (List.replicate ts.length 0) (tr1 (col [] t.1) t.2 [] 0 0) = 0 :: List.replicate ts.length 0
    have e : tr1 (col [] t.1) t.2 [] 0 0 = 0 := rfl
    rw [e, init_trim ts]
theorem Hs.Ok.trim {h : Hs} {w : Nat} (hk : h.Ok w) : h.st.trim = h.st := by
  have key : ∀ (ds : List Deed) (s : ChS), s.Ok w → canL w s ds → s.trim = s → (playS s ds).trim = playS s ds := fun ds => by
    induction ds with
    | nil => intro s _ _ h; exact h
    | cons d ds ih => intro s hs hc _; exact ih (s.go d) (ChS.go_ok hs hc.1) hc.2 (go_trim hs.fd)
  refine key h.ds (.init h.ts) hk.ini (canL_app.mp hk.can).1 ?_
  unfold ChS.trim ChS.init
  simp only
  congr 1
  exact init_trim _
def ChS.isP (s : ChS) : Prop := s.fs = fst s.rows s.ts s.rows.length
instance (s : ChS) : Decidable s.isP := inferInstanceAs (Decidable (_ = _))
/-- lesser limits of the same measures -/
def TLe : List (Nat × Int) → List (Nat × Int) → Prop
  | [], [] => True
  | t :: ts, u :: us => t.1 = u.1 ∧ u.2 ≤ t.2 ∧ TLe ts us
  | _, _ => False
theorem TLe.refl : ∀ ts : List (Nat × Int), TLe ts ts
  | [] => trivial
  | _ :: ts => ⟨rfl, Int.le_refl _, TLe.refl ts⟩
theorem TLe.set : ∀ (ts : List (Nat × Int)) (i : Nat) (l : Int), l ≤ (ts.getD i (0, 0)).2 → TLe ts (ts.set i ((ts.getD i (0, 0)).1, l))
  | [], _, _, _ => trivial
  | t :: ts, 0, l, h => ⟨rfl, h, TLe.refl ts⟩
  | t :: ts, i + 1, l, h => ⟨rfl, Int.le_refl _, TLe.set ts i l h⟩
end DL.Sh
set_option Elab.async false
set_option linter.all false
set_option maxRecDepth 100000
set_option maxHeartbeats 4000000
/-! The law's own trimming, with pins. -/
namespace DL.Sh
open PySem PySem.Spec PyProof.Rows L2
/-- one step backwards -/
local macro_rules | `(tactic| walk_at "e1") => `(tactic| first
  | with_reducible refine S_next ?_ | with_reducible refine S_ret ?_ | with_reducible refine S_drop ?_ | with_reducible refine S_if ?_ | with_reducible refine S_for ?_
  | with_reducible refine Ev_C ?_ | with_reducible refine Ev_fz ?_ | with_reducible refine Ev_pur ?_ | with_reducible refine Ev_op2 ?_ | with_reducible refine Ev_top2 ?_ | with_reducible refine Ev_op1 ?_ | with_reducible refine Ev_val ?_
  | with_reducible refine Ev_tand ?_ | with_reducible refine Ev_tor ?_ | with_reducible refine Ev_tnot ?_ | with_reducible refine Ev_and ?_ | with_reducible refine Ev_or ?_ | with_reducible refine Ev_not ?_ | with_reducible refine Ev_if ?_
  | with_reducible refine Ev_anil ?_ | with_reducible refine Ev_acons ?_ | with_reducible refine Ev_eanil ?_ | with_reducible refine Ev_eacons ?_ | with_reducible refine Ev_call ?_ | with_reducible refine Ev_onone ?_ | with_reducible refine Ev_osome ?_
  | with_reducible refine Ev_sl ?_ | with_reducible refine Ev_esl ?_ | with_reducible refine Ev_eop2 ?_ | with_reducible refine Ev_eargs ?_ | with_reducible refine Ev_iseq ?_ | with_reducible refine Ev_iargs ?_ | with_reducible refine Ev_yes ?_
  | with_reducible refine Ev_chain ?_ | with_reducible refine Ev_tchain ?_
  | (with_reducible refine Ev_tbor ?_; simp only [frzE, Option.map_some, Option.map_none, O.fz, fzs, fzs_ints, fzs_purs])
  | (with_reducible refine Ev_bor ?_; simp only [frzE, Option.map_some, Option.map_none, O.fz, fzs, fzs_ints, fzs_purs])
  | ((with_reducible show (if (!true) = true then _ else _)); rw [if_neg (by decide)]) | ((with_reducible show (if (!false) = true then _ else _)); rw [if_pos (by decide)])
  | with_reducible refine Ev_call1 ?_ | ((with_reducible show (if true = true then _ else _)); rw [if_pos rfl]) | ((with_reducible show (if false = true then _ else _)); rw [if_neg Bool.false_ne_true])
  | ((with_reducible show Ev (dVar _) _ _); refine Ev_var rfl ?_)
  | ((with_reducible show Ev (eMove _) _ _); refine Ev_move rfl ?_; (try simp only [List.set_cons_zero, List.set_cons_succ]))
  | ((with_reducible refine S_set ?_))
  | (with_reducible refine S_asg ?_)
  | ((with_reducible refine Ev_tup ?_)) | ((with_reducible refine Ev_lst ?_)) | ((with_reducible refine Ev_elst ?_)) | ((with_reducible refine Ev_etup ?_))
  | ((with_reducible show ∃ _, powD _ _ = some _ ∧ _); refine ⟨_, pow18, ?_⟩) | ((with_reducible show ∃ _, powD _ _ = some _ ∧ _); refine ⟨_, rfl, ?_⟩; simp only [Int.reduceToNat, Int.reducePow]) | ((with_reducible show ∃ _, addD _ _ = some _ ∧ _); refine ⟨_, add_ii _ _, ?_⟩) | ((with_reducible show ∃ _, eqD _ _ = some _ ∧ _); refine ⟨_, eq_dec _ _, ?_⟩) | ((with_reducible show ∃ _, neD _ _ = some _ ∧ _); refine ⟨_, ne_dec _ _, ?_⟩) | ((with_reducible show ∃ _, ltD _ _ = some _ ∧ _); refine ⟨_, lt_dec _ _, ?_⟩) | ((with_reducible show ∃ _, leD _ _ = some _ ∧ _); refine ⟨_, le_dec _ _, ?_⟩) | ((with_reducible show ∃ _, gtD _ _ = some _ ∧ _); refine ⟨_, gt_dec _ _, ?_⟩) | ((with_reducible show ∃ _, geD _ _ = some _ ∧ _); refine ⟨_, ge_dec _ _, ?_⟩) | ((with_reducible show ∃ _, subD _ _ = some _ ∧ _); refine ⟨_, sub_ii _ _, ?_⟩) | ((with_reducible show ∃ _, negD _ = some _ ∧ _); refine ⟨_, neg_i _, ?_⟩)
  | ((with_reducible show ∃ _, mulD _ _ = some _ ∧ _); refine ⟨_, mul_ii (by omega), ?_⟩) | ((with_reducible show ∃ _, modD _ _ = some _ ∧ _); refine ⟨_, mod_ii (by omega), ?_⟩) | ((with_reducible show ∃ _, divD _ _ = some _ ∧ _); refine ⟨_, div_ii (by omega) (by omega), ?_⟩)
  | ((with_reducible show ∃ _, mixE _ _ _ = some _ ∧ _); refine ⟨_, mix_nil rfl, ?_⟩)
  | ((with_reducible show _ < List.length _ ∧ _); refine ⟨of_decide_eq_true rfl, ?_⟩; (try simp only [List.set_cons_zero, List.set_cons_succ, O.fz, fzs_ints, fzs_purs, keepE_cons, keepE_nil, wipeE]))
  | ((with_reducible show (_ < List.length _ ∧ _) ∧ _); refine ⟨of_decide_eq_true rfl, ?_⟩; (try simp only [List.set_cons_zero, List.set_cons_succ, O.fz, fzs_ints, fzs_purs, keepE_cons, keepE_nil, wipeE]))
  | ((with_reducible show List.length _ ≤ 1000 ∧ _); refine ⟨of_decide_eq_true rfl, ?_⟩; (try simp only [List.set_cons_zero, List.set_cons_succ, O.fz, fzs_ints, fzs_purs, keepE_cons, keepE_nil, wipeE]))
  | ((with_reducible show flatO _ = true ∧ _); refine ⟨rfl, ?_⟩)
  | ((with_reducible show Ev (eaLate _ _) _ _); refine Ev_late rfl ?_)
  | with_reducible refine S_setIx ?_
  | ((with_reducible show EvS (sAugIx _ _ _ _) _ _ _ _ _); refine S_augIx rfl ?_)
  | ((with_reducible show EvS (sAug _ _ _) _ _ _ _ _); refine S_aug rfl ?_)
  | ((with_reducible show ∃ a b c, _ = D.int a ∧ _ ∧ _ ∧ _); refine ⟨_, _, _, rfl, rfl, rfl, ?_⟩; simp only [List.set_cons_zero, List.set_cons_succ, Int.toNat_ofNat, Int.reduceToNat])
  | ((with_reducible show ∃ a b c, _ = D.int a ∧ _ ∧ _ ∧ _); refine ⟨_, _, _, rfl, rfl, rfl, ?_⟩)
  | ((with_reducible show ∃ _, ixD _ _ = some _ ∧ _); refine ⟨_, rfl, ?_⟩)
  | ((with_reducible show ∃ _, lenD _ = some _ ∧ _); refine ⟨_, rfl, ?_⟩)
  | ((with_reducible show ∃ _, absD _ = some _ ∧ _); refine ⟨_, rfl, ?_⟩)
  | ((with_reducible show ∃ _, itemsD _ = some _ ∧ _); refine ⟨_, rfl, ?_⟩)
  | ((with_reducible show ∃ _, tupleD _ = some _ ∧ _); refine ⟨_, rfl, ?_⟩)
  | ((with_reducible show ∃ _, listD _ = some _ ∧ _); refine ⟨_, rfl, ?_⟩)
  | ((with_reducible show ∃ _, listL _ = some _ ∧ _); refine ⟨_, rfl, ?_⟩)
  | ((with_reducible show ∃ _, toIntD _ = some _ ∧ _); refine ⟨_, rfl, ?_⟩)
  | ((with_reducible show ∃ _, isD _ _ = some _ ∧ _); refine ⟨_, rfl, ?_⟩)
  | ((with_reducible show ∃ _, isNotD _ _ = some _ ∧ _); refine ⟨_, rfl, ?_⟩)
  | ((with_reducible show ∃ _, takeS _ _ = some _ ∧ _); refine ⟨_, rfl, ?_⟩)
  | ((with_reducible show ∃ _, fName _ _ _ = some _ ∧ _); refine ⟨_, rfl, ?_⟩; (try simp only [List.set_cons_zero, List.set_cons_succ]))
  | ((with_reducible show ∃ _, fTup _ _ _ _ = some _ ∧ _); refine ⟨_, rfl, ?_⟩; (try simp only [List.set_cons_zero, List.set_cons_succ]))
  | ((with_reducible show ∃ _, slD _ _ _ = some _ ∧ _); refine ⟨_, rfl, ?_⟩)
  | ((with_reducible show ∃ _, slL _ _ _ = some _ ∧ _); refine ⟨_, rfl, ?_⟩)
  | ((with_reducible show ∃ _, List.set _ _ _ = some _ ∧ _); refine ⟨_, rfl, ?_⟩)
  | ((with_reducible show ∃ _, getElem? _ _ = some _ ∧ _); refine ⟨_, rfl, ?_⟩)
  | ((with_reducible show ∃ _, rangeD1 [D.int (Nat.cast _)] = some _ ∧ _); refine ⟨_, range_nat (by omega), ?_⟩) | ((with_reducible show ∃ _, rangeD1 _ = some _ ∧ _); refine ⟨_, range_lit (by omega) (by omega), ?_⟩)
  | ((with_reducible show ∃ _, _ = D.int _ ∧ _); refine ⟨_, rfl, ?_⟩)
  | ((with_reducible show ∃ _, maxD [D.int _, D.int _] = some _ ∧ _); refine ⟨_, rfl, ?_⟩) | ((with_reducible show ∃ _, minD [D.int _, D.int _] = some _ ∧ _); refine ⟨_, rfl, ?_⟩)
  | ((with_reducible show ∃ _, truD _ = some _ ∧ _); refine ⟨_, rfl, ?_⟩)
  | ((with_reducible show ∃ _, _ = D.bl _ ∧ _); refine ⟨_, rfl, ?_⟩)
  | ((with_reducible show ∃ _, neD (.str _) (.str _) = some _ ∧ _); refine ⟨_, ne_str _, ?_⟩) | ((with_reducible show ∃ _, eqD (.str _) (.str _) = some _ ∧ _); refine ⟨_, eq_str _, ?_⟩))
local macro_rules | `(tactic| walk_at "e") => `(tactic| repeat walk_at "e1")
local macro_rules | `(tactic| walk_at "s") => `(tactic| repeat (first | with_reducible refine S_seq ?_ | walk_at "e1"))
local macro_rules | `(tactic| walk_at "n") => `(tactic| try simp only [List.set_cons_zero, List.set_cons_succ, O.fz, fzs_ints, fzs_purs, keepE_cons, keepE_nil, wipeE])
local macro_rules | `(tactic| walk_at "e1") => `(tactic| ((with_reducible show Ev (eCall f_law_take _ _) _ _); refine Ev_take rfl (by assumption) ?_; (try simp only [List.set_cons_zero, List.set_cons_succ])))
local macro_rules | `(tactic| walk_at "e1") => `(tactic| ((with_reducible show ∀ _ _, _ → _ → BagOk _ → _); intro r o' h1 h2 hb; (try simp only [List.set_cons_zero, List.set_cons_succ, O.fz])))
local macro_rules | `(tactic| walk_at "e1") => `(tactic| ((with_reducible show _ < _ ∧ _); refine ⟨by omega, ?_⟩))
local macro_rules | `(tactic| walk_at "e1") => `(tactic| ((with_reducible show Ev (eCall f_law_size _ _) _ _); refine Ev_size rfl (by assumption) ?_; (try simp only [List.set_cons_zero, List.set_cons_succ])))
local macro_rules | `(tactic| walk_at "e1") => `(tactic| ((with_reducible show ∃ _, lenD [D.lst (rowsD _)] = some _ ∧ _); refine ⟨_, rfl, ?_⟩; rw [rowsD_len]))
local macro_rules | `(tactic| walk_at "e1") => `(tactic| ((with_reducible show ∃ _, isaD _ = some _ ∧ _); refine ⟨_, rfl, ?_⟩))
local macro_rules | `(tactic| walk_at "e1") => `(tactic| ((with_reducible show ∃ _, rangeD1 [D.int (_ + 1)] = some _ ∧ _); refine ⟨_, range_succ' (by omega), ?_⟩))
local macro_rules | `(tactic| walk_at "e1") => `(tactic| ((with_reducible show ∃ _, rangeD1 [D.int (1 + _)] = some _ ∧ _); refine ⟨_, range_one_add (by omega) (by omega), ?_⟩))
local macro_rules | `(tactic| walk_at "e1") => `(tactic| ((with_reducible show EvS (sFrz _ _) _ _ _ _ _); refine S_frz rfl ?_; (try simp only [List.set_cons_zero, List.set_cons_succ, O.fz, fzs, fzs_ints, fzs_purs])))
local macro_rules | `(tactic| walk_at "e1") => `(tactic| first | with_reducible refine S_par2 ?_ | with_reducible refine S_par3 ?_)
local macro_rules | `(tactic| walk_at "e1") => `(tactic| ((with_reducible show ∃ o1 o2 : O, _ = [o1, o2] ∧ _); refine ⟨_, _, rfl, ?_⟩))
local macro_rules | `(tactic| walk_at "e1") => `(tactic| ((with_reducible show ∃ o1 o2 o3 : O, _ = [o1, o2, o3] ∧ _); refine ⟨_, _, _, rfl, ?_⟩))
local macro_rules | `(tactic| walk_at "e1") => `(tactic| ((with_reducible show (_ < List.length _ ∧ _ < List.length _ ∧ _ < List.length _) ∧ _); refine ⟨of_decide_eq_true rfl, ?_⟩; (try simp only [List.set_cons_zero, List.set_cons_succ, O.fz, fzs_ints, fzs_purs, keepE_cons, keepE_nil, wipeE])))
local macro_rules | `(tactic| walk_at "e1") => `(tactic| first
  | ((with_reducible show Ev (eMCallD _ _ _ _ _) _ _); refine Ev_mcallD (fun _ _ _ h => runB_nil h) ?_)
  | ((with_reducible show Ev (eMCallK _ _ _ _ _ _) _ _); refine Ev_mcallK (fun _ _ _ h => runB_nil h) ?_)
  | ((with_reducible show Ev (eCallK _ _ _) _ _); refine Ev_callK (fun _ _ _ h => runB_nil h) ?_)
  | with_reducible refine Ev_make ?_
  | ((with_reducible show ∃ _, fldD "Endless" "wide" (endD _ _) = some _ ∧ _); refine ⟨_, end_wide, ?_⟩)
  | ((with_reducible show ∃ _, fldD "Endless" "rows" (endD _ _) = some _ ∧ _); refine ⟨_, end_rows, ?_⟩)
  | ((with_reducible show ∃ _, fldD "Endless" "sums" (endD _ _) = some _ ∧ _); refine ⟨_, end_sums, ?_⟩)
  | ((with_reducible show isIns _ _ (endD _ _) = true ∧ _); refine ⟨rfl, ?_⟩)
  | ((with_reducible show ∃ _, divmodD [D.int _, D.int _] = some _ ∧ _); refine ⟨_, divmod_ii (by omega) (by omega), ?_⟩)
  | ((with_reducible show ∃ _, lenD [mapL _ _] = some _ ∧ _); refine ⟨_, mapL_len, ?_⟩)
  | ((with_reducible show ∃ _, itemsD (mapL _ _) = some _ ∧ _); refine ⟨_, mapL_items, ?_⟩)
  | ((with_reducible show (if isNon (D.int _) = true then _ else _)); rw [if_neg (show ¬ (isNon (D.int _) = true) from Bool.false_ne_true)])
  | ((with_reducible show (if isNon D.non = true then _ else _)); rw [if_pos (show isNon D.non = true from rfl)])
  | ((with_reducible show (if (!isNon (D.int _)) = true then _ else _)); rw [if_pos (show (!isNon (D.int _)) = true from rfl)])
  | ((with_reducible show (if (!isNon D.non) = true then _ else _)); rw [if_neg (show ¬ ((!isNon D.non) = true) from Bool.false_ne_true)])
  | ((with_reducible show (if isNon (mapL _ _) = true then _ else _)); rw [if_neg (show ¬ (isNon (mapL _ _) = true) from Bool.false_ne_true)])
  | ((with_reducible show (if isNon (jD none) = true then _ else _)); rw [if_pos (show isNon (jD none) = true from rfl)])
  | ((with_reducible show (if isNon (jD (some _)) = true then _ else _)); rw [if_neg (show ¬ (isNon (jD (some _)) = true) from Bool.false_ne_true)])
  | ((with_reducible show (if (!isNon (jD none)) = true then _ else _)); rw [if_neg (show ¬ ((!isNon (jD none)) = true) from Bool.false_ne_true)])
  | ((with_reducible show (if (!isNon (jD (some _))) = true then _ else _)); rw [if_pos (show (!isNon (jD (some _))) = true from rfl)])
  | with_reducible refine Ev_methT ?_)
local macro_rules | `(tactic| walk_at "e1") => `(tactic| first
  | ((with_reducible show EvS (sTupO _ _) _ _ _ _ _); refine S_tupO ?_)
  | ((with_reducible show Ev eDNew _ _); refine Ev_dnew ?_)
  | ((with_reducible show Ev (eMCallI _ _ _ _ false _ _) _ _); refine Ev_mcallI rfl (Ev_recvN ?_))
  | ((with_reducible show Ev (eMCallI _ _ _ _ true _ _) _ _); refine Ev_mcallI rfl (Ev_recvL ?_))
  | ((with_reducible show ∃ os : List O, O.tup _ = O.tup os ∧ _ ∧ _ ∧ _); refine ⟨_, rfl, rfl, of_decide_eq_true rfl, ?_⟩; simp only [setAll, List.set_cons_zero, List.set_cons_succ])
  | ((with_reducible show isIns _ _ (chD _ _ _ _ _ _ _) = true ∧ _); refine ⟨rfl, ?_⟩))
local macro_rules | `(tactic| walk_at "e1") => `(tactic| first
  | ((with_reducible show ∃ _, fldD "Chain" "firsts" (chD _ _ _ _ _ _ _) = some _ ∧ _); refine ⟨_, ch_firsts, ?_⟩)
  | ((with_reducible show ∃ _, fldD "Chain" "entries" (chD _ _ _ _ _ _ _) = some _ ∧ _); refine ⟨_, ch_entries, ?_⟩)
  | ((with_reducible show ∃ _, fldD "Chain" "rows" (chD _ _ _ _ _ _ _) = some _ ∧ _); refine ⟨_, ch_rows, ?_⟩)
  | ((with_reducible show ∃ _, fldD "Chain" "sums" (chD _ _ _ _ _ _ _) = some _ ∧ _); refine ⟨_, ch_sums, ?_⟩)
  | ((with_reducible show ∃ _, fldD "Chain" "wide" (chD _ _ _ _ _ _ _) = some _ ∧ _); refine ⟨_, ch_wide, ?_⟩))
local macro_rules | `(tactic| walk_at "e1") => `(tactic| first
  | with_reducible refine X_lift ?_ | with_reducible refine X_seq ?_ | with_reducible refine X_if ?_ | with_reducible refine X_ret ?_ | with_reducible refine X_drop ?_ | with_reducible refine X_set ?_ | with_reducible refine X_asg ?_
  | with_reducible refine X_raise1 ?_ | with_reducible refine X_raise0 ?_ | with_reducible refine M_fz ?_ | with_reducible refine M_of ?_ | with_reducible refine M_tup2 ?_ | with_reducible refine M_call ?_ | with_reducible refine S_tryO ?_ | with_reducible refine X_tryO ?_ | with_reducible refine X_for ?_ | with_reducible refine Ev_ifO ?_
  | ((with_reducible show EvM (eMCallX _ _ _ _ false _ _) _ _ _); refine M_mcall rfl (M_call (Ev_recvN ?_)))
  | ((with_reducible show EvM (eMCallX _ _ _ _ true _ _) _ _ _); refine M_mcall rfl (M_call (Ev_recvL ?_))))
local macro_rules | `(tactic| walk_at "e1") => `(tactic| first
  | ((with_reducible show Ev (dIsX _ _ _ _) _ _); refine Ev_isX rfl rfl ?_)
  | ((with_reducible show Ev (dIsXs _ _ _ _) _ _); refine Ev_isXs rfl rfl ?_)
  | ((with_reducible show Ev (dExF _ _ _ _ _) _ _); refine Ev_exF rfl rfl rfl ?_))
end DL.Sh
set_option Elab.async false
set_option linter.all false
set_option maxRecDepth 100000
set_option maxHeartbeats 4000000
/-! The data layer: o[k].append((d, row)) where row is an own name that is given up. -/
namespace DL
open PySem PySem.Spec PyProof.Rows L2
end DL
set_option Elab.async false
set_option linter.all false
set_option maxRecDepth 100000
set_option maxHeartbeats 4000000
/-! The data layer: o[k].remove(n) of an own list of ints; xs.count(b) of a list of bools. -/
namespace DL
open PySem PySem.Spec PyProof.Rows L2
/-! ### xs.count(b) -/
end DL
set_option Elab.async false
set_option linter.all false
set_option maxRecDepth 100000
set_option maxHeartbeats 4000000
/-! The law's own chain. -/
namespace DL.Sh
open PySem PySem.Spec PyProof.Rows L2
/-- one step backwards -/
local macro_rules | `(tactic| walk_at "e1") => `(tactic| first
  | with_reducible refine S_next ?_ | with_reducible refine S_ret ?_ | with_reducible refine S_drop ?_ | with_reducible refine S_if ?_ | with_reducible refine S_for ?_
  | with_reducible refine Ev_C ?_ | with_reducible refine Ev_fz ?_ | with_reducible refine Ev_pur ?_ | with_reducible refine Ev_op2 ?_ | with_reducible refine Ev_top2 ?_ | with_reducible refine Ev_op1 ?_ | with_reducible refine Ev_val ?_
  | with_reducible refine Ev_tand ?_ | with_reducible refine Ev_tor ?_ | with_reducible refine Ev_tnot ?_ | with_reducible refine Ev_and ?_ | with_reducible refine Ev_or ?_ | with_reducible refine Ev_not ?_ | with_reducible refine Ev_if ?_
  | with_reducible refine Ev_anil ?_ | with_reducible refine Ev_acons ?_ | with_reducible refine Ev_eanil ?_ | with_reducible refine Ev_eacons ?_ | with_reducible refine Ev_call ?_ | with_reducible refine Ev_onone ?_ | with_reducible refine Ev_osome ?_
  | with_reducible refine Ev_sl ?_ | with_reducible refine Ev_esl ?_ | with_reducible refine Ev_eop2 ?_ | with_reducible refine Ev_eargs ?_ | with_reducible refine Ev_iseq ?_ | with_reducible refine Ev_iargs ?_ | with_reducible refine Ev_yes ?_
  | with_reducible refine Ev_chain ?_ | with_reducible refine Ev_tchain ?_
  | (with_reducible refine Ev_tbor ?_; simp only [frzE, Option.map_some, Option.map_none, O.fz, fzs, fzs_ints, fzs_purs])
  | (with_reducible refine Ev_bor ?_; simp only [frzE, Option.map_some, Option.map_none, O.fz, fzs, fzs_ints, fzs_purs])
  | ((with_reducible show (if (!true) = true then _ else _)); rw [if_neg (by decide)]) | ((with_reducible show (if (!false) = true then _ else _)); rw [if_pos (by decide)])
  | with_reducible refine Ev_call1 ?_ | ((with_reducible show (if true = true then _ else _)); rw [if_pos rfl]) | ((with_reducible show (if false = true then _ else _)); rw [if_neg Bool.false_ne_true])
  | ((with_reducible show Ev (dVar _) _ _); refine Ev_var rfl ?_)
  | ((with_reducible show Ev (eMove _) _ _); refine Ev_move rfl ?_; (try simp only [List.set_cons_zero, List.set_cons_succ]))
  | ((with_reducible refine S_set ?_))
  | (with_reducible refine S_asg ?_)
  | ((with_reducible refine Ev_tup ?_)) | ((with_reducible refine Ev_lst ?_)) | ((with_reducible refine Ev_elst ?_)) | ((with_reducible refine Ev_etup ?_))
  | ((with_reducible show ∃ _, powD _ _ = some _ ∧ _); refine ⟨_, pow18, ?_⟩) | ((with_reducible show ∃ _, powD _ _ = some _ ∧ _); refine ⟨_, rfl, ?_⟩; simp only [Int.reduceToNat, Int.reducePow]) | ((with_reducible show ∃ _, addD _ _ = some _ ∧ _); refine ⟨_, add_ii _ _, ?_⟩) | ((with_reducible show ∃ _, eqD _ _ = some _ ∧ _); refine ⟨_, eq_dec _ _, ?_⟩) | ((with_reducible show ∃ _, neD _ _ = some _ ∧ _); refine ⟨_, ne_dec _ _, ?_⟩) | ((with_reducible show ∃ _, ltD _ _ = some _ ∧ _); refine ⟨_, lt_dec _ _, ?_⟩) | ((with_reducible show ∃ _, leD _ _ = some _ ∧ _); refine ⟨_, le_dec _ _, ?_⟩) | ((with_reducible show ∃ _, gtD _ _ = some _ ∧ _); refine ⟨_, gt_dec _ _, ?_⟩) | ((with_reducible show ∃ _, geD _ _ = some _ ∧ _); refine ⟨_, ge_dec _ _, ?_⟩) | ((with_reducible show ∃ _, subD _ _ = some _ ∧ _); refine ⟨_, sub_ii _ _, ?_⟩) | ((with_reducible show ∃ _, negD _ = some _ ∧ _); refine ⟨_, neg_i _, ?_⟩)
  | ((with_reducible show ∃ _, mulD _ _ = some _ ∧ _); refine ⟨_, mul_ii (by omega), ?_⟩) | ((with_reducible show ∃ _, modD _ _ = some _ ∧ _); refine ⟨_, mod_ii (by omega), ?_⟩) | ((with_reducible show ∃ _, divD _ _ = some _ ∧ _); refine ⟨_, div_ii (by omega) (by omega), ?_⟩)
  | ((with_reducible show ∃ _, mixE _ _ _ = some _ ∧ _); refine ⟨_, mix_nil rfl, ?_⟩)
  | ((with_reducible show _ < List.length _ ∧ _); refine ⟨of_decide_eq_true rfl, ?_⟩; (try simp only [List.set_cons_zero, List.set_cons_succ, O.fz, fzs_ints, fzs_purs, keepE_cons, keepE_nil, wipeE]))
  | ((with_reducible show (_ < List.length _ ∧ _) ∧ _); refine ⟨of_decide_eq_true rfl, ?_⟩; (try simp only [List.set_cons_zero, List.set_cons_succ, O.fz, fzs_ints, fzs_purs, keepE_cons, keepE_nil, wipeE]))
  | ((with_reducible show List.length _ ≤ 1000 ∧ _); refine ⟨of_decide_eq_true rfl, ?_⟩; (try simp only [List.set_cons_zero, List.set_cons_succ, O.fz, fzs_ints, fzs_purs, keepE_cons, keepE_nil, wipeE]))
  | ((with_reducible show flatO _ = true ∧ _); refine ⟨rfl, ?_⟩)
  | ((with_reducible show Ev (eaLate _ _) _ _); refine Ev_late rfl ?_)
  | with_reducible refine S_setIx ?_
  | ((with_reducible show EvS (sAugIx _ _ _ _) _ _ _ _ _); refine S_augIx rfl ?_)
  | ((with_reducible show EvS (sAug _ _ _) _ _ _ _ _); refine S_aug rfl ?_)
  | ((with_reducible show ∃ a b c, _ = D.int a ∧ _ ∧ _ ∧ _); refine ⟨_, _, _, rfl, rfl, rfl, ?_⟩; simp only [List.set_cons_zero, List.set_cons_succ, Int.toNat_ofNat, Int.reduceToNat])
  | ((with_reducible show ∃ a b c, _ = D.int a ∧ _ ∧ _ ∧ _); refine ⟨_, _, _, rfl, rfl, rfl, ?_⟩)
  | ((with_reducible show ∃ _, ixD _ _ = some _ ∧ _); refine ⟨_, rfl, ?_⟩)
  | ((with_reducible show ∃ _, lenD _ = some _ ∧ _); refine ⟨_, rfl, ?_⟩)
  | ((with_reducible show ∃ _, absD _ = some _ ∧ _); refine ⟨_, rfl, ?_⟩)
  | ((with_reducible show ∃ _, itemsD _ = some _ ∧ _); refine ⟨_, rfl, ?_⟩)
  | ((with_reducible show ∃ _, tupleD _ = some _ ∧ _); refine ⟨_, rfl, ?_⟩)
  | ((with_reducible show ∃ _, listD _ = some _ ∧ _); refine ⟨_, rfl, ?_⟩)
  | ((with_reducible show ∃ _, listL _ = some _ ∧ _); refine ⟨_, rfl, ?_⟩)
  | ((with_reducible show ∃ _, toIntD _ = some _ ∧ _); refine ⟨_, rfl, ?_⟩)
  | ((with_reducible show ∃ _, isD _ _ = some _ ∧ _); refine ⟨_, rfl, ?_⟩)
  | ((with_reducible show ∃ _, isNotD _ _ = some _ ∧ _); refine ⟨_, rfl, ?_⟩)
  | ((with_reducible show ∃ _, takeS _ _ = some _ ∧ _); refine ⟨_, rfl, ?_⟩)
  | ((with_reducible show ∃ _, fName _ _ _ = some _ ∧ _); refine ⟨_, rfl, ?_⟩; (try simp only [List.set_cons_zero, List.set_cons_succ]))
  | ((with_reducible show ∃ _, fTup _ _ _ _ = some _ ∧ _); refine ⟨_, rfl, ?_⟩; (try simp only [List.set_cons_zero, List.set_cons_succ]))
  | ((with_reducible show ∃ _, slD _ _ _ = some _ ∧ _); refine ⟨_, rfl, ?_⟩)
  | ((with_reducible show ∃ _, slL _ _ _ = some _ ∧ _); refine ⟨_, rfl, ?_⟩)
  | ((with_reducible show ∃ _, List.set _ _ _ = some _ ∧ _); refine ⟨_, rfl, ?_⟩)
  | ((with_reducible show ∃ _, getElem? _ _ = some _ ∧ _); refine ⟨_, rfl, ?_⟩)
  | ((with_reducible show ∃ _, rangeD1 [D.int (Nat.cast _)] = some _ ∧ _); refine ⟨_, range_nat (by omega), ?_⟩) | ((with_reducible show ∃ _, rangeD1 _ = some _ ∧ _); refine ⟨_, range_lit (by omega) (by omega), ?_⟩)
  | ((with_reducible show ∃ _, _ = D.int _ ∧ _); refine ⟨_, rfl, ?_⟩)
  | ((with_reducible show ∃ _, maxD [D.int _, D.int _] = some _ ∧ _); refine ⟨_, rfl, ?_⟩) | ((with_reducible show ∃ _, minD [D.int _, D.int _] = some _ ∧ _); refine ⟨_, rfl, ?_⟩)
  | ((with_reducible show ∃ _, truD _ = some _ ∧ _); refine ⟨_, rfl, ?_⟩)
  | ((with_reducible show ∃ _, _ = D.bl _ ∧ _); refine ⟨_, rfl, ?_⟩)
  | ((with_reducible show ∃ _, neD (.str _) (.str _) = some _ ∧ _); refine ⟨_, ne_str _, ?_⟩) | ((with_reducible show ∃ _, eqD (.str _) (.str _) = some _ ∧ _); refine ⟨_, eq_str _, ?_⟩))
local macro_rules | `(tactic| walk_at "e") => `(tactic| repeat walk_at "e1")
local macro_rules | `(tactic| walk_at "s") => `(tactic| repeat (first | with_reducible refine S_seq ?_ | walk_at "e1"))
local macro_rules | `(tactic| walk_at "n") => `(tactic| try simp only [List.set_cons_zero, List.set_cons_succ, O.fz, fzs_ints, fzs_purs, keepE_cons, keepE_nil, wipeE])
local macro_rules | `(tactic| walk_at "e1") => `(tactic| ((with_reducible show Ev (eCall f_law_take _ _) _ _); refine Ev_take rfl (by assumption) ?_; (try simp only [List.set_cons_zero, List.set_cons_succ])))
local macro_rules | `(tactic| walk_at "e1") => `(tactic| ((with_reducible show ∀ _ _, _ → _ → BagOk _ → _); intro r o' h1 h2 hb; (try simp only [List.set_cons_zero, List.set_cons_succ, O.fz])))
local macro_rules | `(tactic| walk_at "e1") => `(tactic| ((with_reducible show _ < _ ∧ _); refine ⟨by omega, ?_⟩))
local macro_rules | `(tactic| walk_at "e1") => `(tactic| ((with_reducible show Ev (eCall f_law_size _ _) _ _); refine Ev_size rfl (by assumption) ?_; (try simp only [List.set_cons_zero, List.set_cons_succ])))
local macro_rules | `(tactic| walk_at "e1") => `(tactic| ((with_reducible show ∃ _, lenD [D.lst (rowsD _)] = some _ ∧ _); refine ⟨_, rfl, ?_⟩; rw [rowsD_len]))
local macro_rules | `(tactic| walk_at "e1") => `(tactic| ((with_reducible show ∃ _, isaD _ = some _ ∧ _); refine ⟨_, rfl, ?_⟩))
local macro_rules | `(tactic| walk_at "e1") => `(tactic| ((with_reducible show ∃ _, rangeD1 [D.int (_ + 1)] = some _ ∧ _); refine ⟨_, range_succ' (by omega), ?_⟩))
local macro_rules | `(tactic| walk_at "e1") => `(tactic| ((with_reducible show ∃ _, rangeD1 [D.int (1 + _)] = some _ ∧ _); refine ⟨_, range_one_add (by omega) (by omega), ?_⟩))
local macro_rules | `(tactic| walk_at "e1") => `(tactic| ((with_reducible show EvS (sFrz _ _) _ _ _ _ _); refine S_frz rfl ?_; (try simp only [List.set_cons_zero, List.set_cons_succ, O.fz, fzs, fzs_ints, fzs_purs])))
local macro_rules | `(tactic| walk_at "e1") => `(tactic| first | with_reducible refine S_par2 ?_ | with_reducible refine S_par3 ?_)
local macro_rules | `(tactic| walk_at "e1") => `(tactic| ((with_reducible show ∃ o1 o2 : O, _ = [o1, o2] ∧ _); refine ⟨_, _, rfl, ?_⟩))
local macro_rules | `(tactic| walk_at "e1") => `(tactic| ((with_reducible show ∃ o1 o2 o3 : O, _ = [o1, o2, o3] ∧ _); refine ⟨_, _, _, rfl, ?_⟩))
local macro_rules | `(tactic| walk_at "e1") => `(tactic| ((with_reducible show (_ < List.length _ ∧ _ < List.length _ ∧ _ < List.length _) ∧ _); refine ⟨of_decide_eq_true rfl, ?_⟩; (try simp only [List.set_cons_zero, List.set_cons_succ, O.fz, fzs_ints, fzs_purs, keepE_cons, keepE_nil, wipeE])))
local macro_rules | `(tactic| walk_at "e1") => `(tactic| first
  | ((with_reducible show Ev (eMCallD _ _ _ _ _) _ _); refine Ev_mcallD (fun _ _ _ h => runB_nil h) ?_)
  | ((with_reducible show Ev (eMCallK _ _ _ _ _ _) _ _); refine Ev_mcallK (fun _ _ _ h => runB_nil h) ?_)
  | ((with_reducible show Ev (eCallK _ _ _) _ _); refine Ev_callK (fun _ _ _ h => runB_nil h) ?_)
  | with_reducible refine Ev_make ?_
  | ((with_reducible show ∃ _, fldD "Endless" "wide" (endD _ _) = some _ ∧ _); refine ⟨_, end_wide, ?_⟩)
  | ((with_reducible show ∃ _, fldD "Endless" "rows" (endD _ _) = some _ ∧ _); refine ⟨_, end_rows, ?_⟩)
  | ((with_reducible show ∃ _, fldD "Endless" "sums" (endD _ _) = some _ ∧ _); refine ⟨_, end_sums, ?_⟩)
  | ((with_reducible show isIns _ _ (endD _ _) = true ∧ _); refine ⟨rfl, ?_⟩)
  | ((with_reducible show ∃ _, divmodD [D.int _, D.int _] = some _ ∧ _); refine ⟨_, divmod_ii (by omega) (by omega), ?_⟩)
  | ((with_reducible show ∃ _, lenD [mapL _ _] = some _ ∧ _); refine ⟨_, mapL_len, ?_⟩)
  | ((with_reducible show ∃ _, itemsD (mapL _ _) = some _ ∧ _); refine ⟨_, mapL_items, ?_⟩)
  | ((with_reducible show (if isNon (D.int _) = true then _ else _)); rw [if_neg (show ¬ (isNon (D.int _) = true) from Bool.false_ne_true)])
  | ((with_reducible show (if isNon D.non = true then _ else _)); rw [if_pos (show isNon D.non = true from rfl)])
  | ((with_reducible show (if (!isNon (D.int _)) = true then _ else _)); rw [if_pos (show (!isNon (D.int _)) = true from rfl)])
  | ((with_reducible show (if (!isNon D.non) = true then _ else _)); rw [if_neg (show ¬ ((!isNon D.non) = true) from Bool.false_ne_true)])
  | ((with_reducible show (if isNon (mapL _ _) = true then _ else _)); rw [if_neg (show ¬ (isNon (mapL _ _) = true) from Bool.false_ne_true)])
  | ((with_reducible show (if isNon (jD none) = true then _ else _)); rw [if_pos (show isNon (jD none) = true from rfl)])
  | ((with_reducible show (if isNon (jD (some _)) = true then _ else _)); rw [if_neg (show ¬ (isNon (jD (some _)) = true) from Bool.false_ne_true)])
  | ((with_reducible show (if (!isNon (jD none)) = true then _ else _)); rw [if_neg (show ¬ ((!isNon (jD none)) = true) from Bool.false_ne_true)])
  | ((with_reducible show (if (!isNon (jD (some _))) = true then _ else _)); rw [if_pos (show (!isNon (jD (some _))) = true from rfl)])
  | with_reducible refine Ev_methT ?_)
local macro_rules | `(tactic| walk_at "e1") => `(tactic| first
  | ((with_reducible show EvS (sTupO _ _) _ _ _ _ _); refine S_tupO ?_)
  | ((with_reducible show Ev eDNew _ _); refine Ev_dnew ?_)
  | ((with_reducible show Ev (eMCallI _ _ _ _ false _ _) _ _); refine Ev_mcallI rfl (Ev_recvN ?_))
  | ((with_reducible show Ev (eMCallI _ _ _ _ true _ _) _ _); refine Ev_mcallI rfl (Ev_recvL ?_))
  | ((with_reducible show ∃ os : List O, O.tup _ = O.tup os ∧ _ ∧ _ ∧ _); refine ⟨_, rfl, rfl, of_decide_eq_true rfl, ?_⟩; simp only [setAll, List.set_cons_zero, List.set_cons_succ])
  | ((with_reducible show isIns _ _ (chD _ _ _ _ _ _ _) = true ∧ _); refine ⟨rfl, ?_⟩))
local macro_rules | `(tactic| walk_at "e1") => `(tactic| first
  | ((with_reducible show ∃ _, fldD "Chain" "firsts" (chD _ _ _ _ _ _ _) = some _ ∧ _); refine ⟨_, ch_firsts, ?_⟩)
  | ((with_reducible show ∃ _, fldD "Chain" "entries" (chD _ _ _ _ _ _ _) = some _ ∧ _); refine ⟨_, ch_entries, ?_⟩)
  | ((with_reducible show ∃ _, fldD "Chain" "rows" (chD _ _ _ _ _ _ _) = some _ ∧ _); refine ⟨_, ch_rows, ?_⟩)
  | ((with_reducible show ∃ _, fldD "Chain" "sums" (chD _ _ _ _ _ _ _) = some _ ∧ _); refine ⟨_, ch_sums, ?_⟩)
  | ((with_reducible show ∃ _, fldD "Chain" "wide" (chD _ _ _ _ _ _ _) = some _ ∧ _); refine ⟨_, ch_wide, ?_⟩))
local macro_rules | `(tactic| walk_at "e1") => `(tactic| first
  | with_reducible refine X_lift ?_ | with_reducible refine X_seq ?_ | with_reducible refine X_if ?_ | with_reducible refine X_ret ?_ | with_reducible refine X_drop ?_ | with_reducible refine X_set ?_ | with_reducible refine X_asg ?_
  | with_reducible refine X_raise1 ?_ | with_reducible refine X_raise0 ?_ | with_reducible refine M_fz ?_ | with_reducible refine M_of ?_ | with_reducible refine M_tup2 ?_ | with_reducible refine M_call ?_ | with_reducible refine S_tryO ?_ | with_reducible refine X_tryO ?_ | with_reducible refine X_for ?_ | with_reducible refine Ev_ifO ?_
  | ((with_reducible show EvM (eMCallX _ _ _ _ false _ _) _ _ _); refine M_mcall rfl (M_call (Ev_recvN ?_)))
  | ((with_reducible show EvM (eMCallX _ _ _ _ true _ _) _ _ _); refine M_mcall rfl (M_call (Ev_recvL ?_))))
local macro_rules | `(tactic| walk_at "e1") => `(tactic| first
  | ((with_reducible show Ev (dIsX _ _ _ _) _ _); refine Ev_isX rfl rfl ?_)
  | ((with_reducible show Ev (dIsXs _ _ _ _) _ _); refine Ev_isXs rfl rfl ?_)
  | ((with_reducible show Ev (dExF _ _ _ _ _) _ _); refine Ev_exF rfl rfl rfl ?_))
end DL.Sh
set_option Elab.async false
set_option linter.all false
set_option maxRecDepth 100000
set_option maxHeartbeats 4000000
/-! repr of data with dicts in it -/
namespace DL
open PySem PySem.Spec PyProof.Rows L2
def keyP : Key → PyData
  | .inl i => .int i
  | .inr x => .str x
mutual
/-- what a value is as data; dicts too -/
inductive DX (K : PySem.W.Frag) (H : Hp) : V → PyData → Prop
  | non : DX K H .non .none
  | bl (b : Bool) : DX K H (.bl b) (.bool b)
  | int (i : Int) : DX K H (.int i) (.int i)
  | str (x : Str) : DX K H (.str x) (.str x)
  | lst {a : Addr} {xs : List V} {ds : List PyData} (s : SqL K H a xs) (q : DXs K H xs ds) : DX K H (.ref a) (.list ds)
  | tup {a : Addr} {xs : List V} {ds : List PyData} (s : SqT K H a xs) (q : DXs K H xs ds) : DX K H (.ref a) (.tuple ds)
  | dct {a : Addr} {kvs : List (Key × V)} {ps : List (PyData × PyData)} (s : H a = some (.dK kvs)) (q : DXk K H kvs ps) : DX K H (.ref a) (.dict ps)
inductive DXs (K : PySem.W.Frag) (H : Hp) : List V → List PyData → Prop
  | nil : DXs K H [] []
  | cons {v : V} {vs : List V} {d : PyData} {ds : List PyData} (h : DX K H v d) (t : DXs K H vs ds) : DXs K H (v :: vs) (d :: ds)
inductive DXk (K : PySem.W.Frag) (H : Hp) : List (Key × V) → List (PyData × PyData) → Prop
  | nil : DXk K H [] []
  | cons {k : Key} {v : V} {vs : List (Key × V)} {d : PyData} {ds : List (PyData × PyData)} (h : DX K H v d) (t : DXk K H vs ds) : DXk K H ((k, v) :: vs) ((keyP k, d) :: ds)
end
section
variable {X : Cx} {pins : List (Addr × Obj)} {σ : L2.St} {H : Hp} {s : Shared}
/-- a value shown: read as data, and what its text is -/
def Shw (X : Cx) (h : Heap) (u : Value) (d : PyData) : Prop := ∃ as bs, Reads h u d as ∧ ReadAtMost h d.depth bs ∧ ReprK X.prog X.w bs h d.depth u d.shown
def ShwA (X : Cx) (h : Heap) (us : List Value) (ds : List PyData) : Prop := ∃ as bs, ReadsAll h us ds as ∧ ReadAtMost h (PyData.depthAll ds) bs ∧ ReprAllK X.prog X.w bs h (PyData.depthAll ds) us (PyData.shownAll ds)
def ShwK (X : Cx) (h : Heap) (es : List DictEntry) (ps : List (PyData × PyData)) : Prop :=
  ∃ a1 a2 bs, ReadsAll h (es.map (·.key)) (ps.map (·.1)) a1 ∧ ReadsAll h (es.map (·.val)) (ps.map (·.2)) a2 ∧ ReadAtMost h (PyData.depthKv ps) bs ∧ ReprEntriesK X.prog X.w bs h (PyData.depthKv ps) es (PyData.shownKv ps)
theorem entries_more {prog : Program} {w : World} {h0 : Heap} {as as' : List Addr} {d d' : Nat} (hs : ∀ b ∈ as, b ∈ as') (hd : d ≤ d') : ∀ {es : List DictEntry} {ts : List Str}, ReprEntriesK prog w as h0 d es ts → ReprEntriesK prog w as' h0 d' es ts
  | _, _, .nil => .nil
  | _, _, .cons a b r => .cons ((a.more hs).level_le hd) ((b.more hs).level_le hd) (entries_more hs hd r)
theorem key_shown {k : Key} {v : Value} {h : Heap} (e : L2.keyIs k v = true) (hs : (keyP k).showable = true) (hz : (keyP k).shown.length ≤ sizeLine) : Shw X h v (keyP k) := by
  rcases L2.keyIs_shape e with ⟨i, t, rfl, rfl⟩ | ⟨x, t, rfl, rfl⟩
  · refine ⟨_, [], .int i t, (fun _ h => nomatch h), ?_⟩
    show ReprK X.prog X.w [] h _ _ (PyData.shown (.int i))
    simp only [PyData.shown]
    exact .of_is (ReprIs.int t (by simpa [keyP, PyData.showable] using hs)) _ _ _
  · refine ⟨_, [], .str x t, (fun _ h => nomatch h), ?_⟩
    show ReprK X.prog X.w [] h _ _ (PyData.shown (.str x))
    simp only [PyData.shown]
    exact .of_is (ReprIs.str x t (by simpa [keyP, PyData.shown] using hz)) _ _ _
mutual
theorem DX.shw (I : Inv X pins σ H s) : ∀ (d : PyData) (v : V) (u : Value), DX X.K H v d → RelV v u → d.showable = true → d.shown.length ≤ sizeLine → Shw X s.heap u d
  | .none, _, _, h, r, _, _ => by
    cases h; cases r
    refine ⟨_, [], .none, (fun _ h => nomatch h), ?_⟩
    simp only [PyData.shown]
    exact .of_is ReprIs.none _ _ _
  | .bool b, _, _, h, r, _, _ => by
    cases h; cases r
    refine ⟨_, [], .bool b, (fun _ h => nomatch h), ?_⟩
    simp only [PyData.shown]
    exact .of_is (ReprIs.bool b) _ _ _
  | .int i, _, _, h, r, hs, _ => by
    cases h
    obtain ⟨t, rfl⟩ := r
    refine ⟨_, [], .int i t, (fun _ h => nomatch h), ?_⟩
    simp only [PyData.shown]
    exact .of_is (ReprIs.int t (by simpa [PyData.showable] using hs)) _ _ _
  | .str x, _, _, h, r, _, hz => by
    cases h
    obtain ⟨t, rfl⟩ := r
    refine ⟨_, [], .str x t, (fun _ h => nomatch h), ?_⟩
    simp only [PyData.shown]
    exact .of_is (ReprIs.str x t (by simpa only [PyData.shown] using hz)) _ _ _
  | .list ds, _, _, h, r, hs, hz => by
    cases h with
    | lst hq ha =>
      cases r
      have hz2 : (listText (PyData.shownAll ds)).length ≤ sizeLine := by simpa only [PyData.shown] using hz
      obtain ⟨its, rv, ⟨o, n, ho, hc, _, hd⟩, _⟩ := I.list hq
      obtain ⟨as, bs, q1, q2, q3⟩ := DXs.shw I ds _ its ha rv (by simpa [PyData.showable] using hs) fun t ht => Nat.le_trans (listText_mem_le ht) hz2
      have r1 : Reads s.heap (.ref _) (.list ds) _ := Reads.list ho hc hd q1
      have hna := not_mem_of_deeper r1 (n := PyData.depthAll ds) (by simp only [PyData.depth]; omega) q2
      refine ⟨_, _, r1, ReadAtMost.cons r1 (by simp only [PyData.depth]; omega) q2, ?_⟩
      simp only [PyData.depth, PyData.shown]
      cases its with
      | nil =>
        cases q1
        simp only [PyData.shownAll, listText_nil]
        exact ReprK.listEmpty ho hc hd
      | cons x l => exact ReprK.list ho hc hd hna (by simpa using q3.length_eq) (fun i y e => q3.item i y (by simpa using e))
  | .tuple ds, _, _, h, r, hs, hz => by
    cases h with
    | tup hq ha =>
      cases r
      have hz2 : (tupleText (PyData.shownAll ds)).length ≤ sizeLine := by simpa only [PyData.shown] using hz
      obtain ⟨its, rv, ⟨o, ho, hc, n, hd⟩, _⟩ := I.tuple hq
      obtain ⟨as, bs, q1, q2, q3⟩ := DXs.shw I ds _ its ha rv (by simpa [PyData.showable] using hs) fun t ht => Nat.le_trans (tupleText_mem_le ht) hz2
      have r1 : Reads s.heap (.ref _) (.tuple ds) _ := Reads.tuple ho hc hd q1
      have hna := not_mem_of_deeper r1 (n := PyData.depthAll ds) (by simp only [PyData.depth]; omega) q2
      refine ⟨_, _, r1, ReadAtMost.cons r1 (by simp only [PyData.depth]; omega) q2, ?_⟩
      simp only [PyData.depth, PyData.shown]
      exact ReprK.tuple ho hc hd hna q3
  | .dict ps, _, _, h, r, hs, hz => by
    cases h with
    | dct he hq =>
      rename_i a kvs
      cases r
      have hz2 : (dictText (PyData.shownKv ps)).length ≤ sizeLine := by simpa only [PyData.shown] using hz
      obtain ⟨_, hsys, vs, kv, o, es, ep, ho, hc, hd, _, hp, _⟩ := dk_of I.hok he
      obtain ⟨a1, a2, bs, q1, q2, q3, q4⟩ := DXk.shw I ps kvs vs es.toList hq kv hp (by simpa [PyData.showable] using hs) fun t ht => Nat.le_trans (dictText_mem_le ht) hz2
      have r1 : Reads s.heap (.ref a) (.dict ps) _ := Reads.dict ho hc.1 hd q1 q2
      have hna := not_mem_of_deeper r1 (n := PyData.depthKv ps) (by simp only [PyData.depth]; omega) q3
      refine ⟨_, _, r1, ReadAtMost.cons r1 (by simp only [PyData.depth]; omega) q3, ?_⟩
      simp only [PyData.depth, PyData.shown]
      exact ReprK.dict ho hc.1 hd hsys hna q4
theorem DXs.shw (I : Inv X pins σ H s) : ∀ (ds : List PyData) (vs : List V) (us : List Value), DXs X.K H vs ds → Vals vs us → PyData.showableAll ds = true → (∀ t ∈ PyData.shownAll ds, t.length ≤ sizeLine) → ShwA X s.heap us ds
  | [], _, _, h, r, _, _ => by
    cases h; cases r
    exact ⟨_, [], ReadsAll.nil, (fun _ h => nomatch h), by simp only [PyData.shownAll]; exact .nil⟩
  | d :: ds, _, _, h, r, hs, hz => by
    cases h with
    | cons h1 h2 =>
      cases r with
      | cons r1 r2 =>
        have hs2 : d.showable = true ∧ PyData.showableAll ds = true := by simpa [PyData.showableAll] using hs
        obtain ⟨a1, b1, q1, q2, q3⟩ := DX.shw I d _ _ h1 r1 hs2.1 (hz _ (by simp only [PyData.shownAll]; exact List.mem_cons_self ..))
        obtain ⟨a2, b2, p1, p2, p3⟩ := DXs.shw I ds _ _ h2 r2 hs2.2 fun t ht => hz t (by simp only [PyData.shownAll]; exact List.mem_cons_of_mem _ ht)
        refine ⟨_, b1 ++ b2, ReadsAll.cons q1 p1, ?_, ?_⟩
        · simp only [PyData.depthAll]
          exact (q2.mono (Nat.le_max_left _ _)).append (p2.mono (Nat.le_max_right _ _))
        · simp only [PyData.depthAll, PyData.shownAll]
          exact .cons ((q3.more fun b hb => List.mem_append_left _ hb).level_le (Nat.le_max_left _ _)) (p3.more_le (fun b hb => List.mem_append_right _ hb) (Nat.le_max_right _ _))
theorem DXk.shw (I : Inv X pins σ H s) : ∀ (ps : List (PyData × PyData)) (kvs : List (Key × V)) (vs : List (Key × Value)) (es : List DictEntry), DXk X.K H kvs ps → KV kvs vs → Pairs (mixKind X.prog X.w) es vs → PyData.showableKv ps = true → (∀ t ∈ PyData.shownKv ps, t.length ≤ sizeLine) → ShwK X s.heap es ps
  | [], _, _, _, h, r, p, _, _ => by
    cases h; cases r; cases p
    exact ⟨_, _, [], ReadsAll.nil, ReadsAll.nil, (fun _ h => nomatch h), by simp only [PyData.shownKv]; exact .nil⟩
  | (kp, d) :: ps, _, _, _, h, r, p, hs, hz => by
    cases h with
    | cons h1 h2 =>
      cases r with
      | cons r1 r2 =>
        cases p with
        | cons k1 k2 k3 =>
          rename_i k v kvs kv' vs e es
          have hs2 : ((keyP k).showable = true ∧ d.showable = true) ∧ PyData.showableKv ps = true := by simpa [PyData.showableKv] using hs
          have hz1 := hz ((keyP k).shown ++ ": " ++ d.shown) (by simp only [PyData.shownKv]; exact List.mem_cons_self ..)
          rw [strLen_append, strLen_append] at hz1
          obtain ⟨e1, e2⟩ := r1
          have k1' : L2.keyIs k e.key = true := by
            have : (mixKind X.prog X.w).is kv'.1 e.key = true := k1
            rw [← e1] at this; exact this
          obtain ⟨a0, b0, x1, x2, x3⟩ := key_shown (X := X) (h := s.heap) k1' hs2.1.1 (by omega)
          obtain ⟨a1, b1, q1, q2, q3⟩ := DX.shw I d _ e.val h1 (by rw [k2]; exact e2) hs2.1.2 (by omega)
          obtain ⟨c1, c2, b2, p1, p2, p3, p4⟩ := DXk.shw I ps _ _ _ h2 r2 k3 hs2.2 fun t ht => hz t (by simp only [PyData.shownKv]; exact List.mem_cons_of_mem _ ht)
          refine ⟨_, _, b0 ++ b1 ++ b2, ReadsAll.cons x1 p1, ReadsAll.cons q1 p2, ?_, ?_⟩
          · simp only [PyData.depthKv]
            refine ((x2.mono ?_).append (q2.mono ?_)).append (p3.mono ?_) <;> omega
          · simp only [PyData.depthKv, PyData.shownKv]
            refine .cons ((x3.more fun b hb => by simp [hb]).level_le ?_) ((q3.more fun b hb => by simp [hb]).level_le ?_) (entries_more (fun b hb => by simp [hb]) ?_ p4) <;> omega
end
theorem call_reprX {X : Cx} (gd : X.A.guards = some []) (hu : X.A.units + 70 < cLine) : CallR X (.builtin "repr") (fun xs H Q => ∃ x p, xs = [x] ∧ DX X.K H x p ∧ p.depth ≤ 64 ∧ p.showable = true ∧ p.shown.length ≤ sizeLine ∧ Q (.str p.shown) H) := by
  intro pins s σ H xs us Q I r h
  obtain ⟨x, p, rfl, dp, sh, sw, sz, q⟩ := h
  obtain ⟨u, rfl, ru⟩ := vals1 r
  have far : ∀ a, x = .ref a → (∃ T idr, ShowsBy X.prog X.w s.heap a p T idr) → wpAny (model X.prog X.w) X.A (call (.builtin "repr") [u]) (EP X pins σ Q) X.xe s := by
    rintro a rfl ⟨T, idr, S⟩
    cases ru
    exact call_repr_slot (by omega) (S.typeIs s fun _ _ e => e) S.slotRepr (S.call X.A.in1 _ s _ gd (by show X.A.units + 1 + p.depth < cLine; omega) (fun _ _ e => e) fun h' u tk hk => ⟨_, _, rfl, ⟨.str p.shown, H, I.kept hk, ⟨_, rfl⟩, q⟩⟩)
  cases dp with
  | non => cases ru; exact P.repr_of_none ⟨V.str "None", H, I.tok _, ⟨_, rfl⟩, by simpa [PyData.shown] using q⟩
  | bl b => cases ru; exact P.repr_of_bool ⟨V.str (if b then "True" else "False"), H, I.tok _, ⟨_, rfl⟩, by simpa [PyData.shown] using q⟩
  | int i =>
    obtain ⟨t, rfl⟩ := ru
    exact P.repr_of_int (by simpa [PyData.showable] using sw) ⟨V.str (toString i), H, I.tok _, ⟨_, rfl⟩, by simpa [PyData.shown] using q⟩
  | str z =>
    obtain ⟨t, rfl⟩ := ru
    exact P.repr_of_str ⟨V.str (reprText z), H, I.tok _, ⟨_, rfl⟩, by simpa [PyData.shown] using q⟩ (by simpa [PyData.shown] using sz)
  | lst hq ha =>
    rename_i a xs ds
    refine far _ rfl ?_
    have hz2 : (listText (PyData.shownAll ds)).length ≤ sizeLine := by simpa only [PyData.shown] using sz
    obtain ⟨its, rv, ⟨o, n, ho, hc, _, hd⟩, _⟩ := I.list hq
    obtain ⟨as, bs, q1, q2, q3⟩ := DXs.shw I ds _ its ha rv (by simpa [PyData.showable] using sw) fun t ht => Nat.le_trans (listText_mem_le ht) hz2
    have hna := not_mem_of_deeper (Reads.list ho hc hd q1) (n := PyData.depthAll ds) (by simp only [PyData.depth]; omega) q2
    refine ⟨"list", "list.__repr__", F.slot_list_repr.toG, F.slot_list_str, F.slot_list_format, fun s hk0 => ⟨o, hk0 _ _ ho, hc⟩, fun A E s Q hg hu hk0 hQ => ?_⟩
    simp only [PyData.depth] at hu
    simp only [PyData.shown] at hQ
    cases its with
    | nil =>
      cases q1
      simp only [PyData.shownAll, listText_nil] at hQ
      exact call_list_repr_empty ⟨o, hk0 _ _ ho, hc⟩ (hk0 _ _ ho) hd (hQ s.heap _ _ fun _ _ e => e)
    | cons x l => exact call_list_reprK ho hc hd hna (by simpa using q3.length_eq) (fun i y e => q3.item i y (by simpa using e)) hg (fun b _ => Clear.nil b) hu hk0 hQ hz2
  | tup hq ha =>
    rename_i a xs ds
    refine far _ rfl ?_
    have hz2 : (tupleText (PyData.shownAll ds)).length ≤ sizeLine := by simpa only [PyData.shown] using sz
    obtain ⟨its, rv, ⟨o, ho, hc, n, hd⟩, _⟩ := I.tuple hq
    obtain ⟨as, bs, q1, q2, q3⟩ := DXs.shw I ds _ its ha rv (by simpa [PyData.showable] using sw) fun t ht => Nat.le_trans (tupleText_mem_le ht) hz2
    have hna := not_mem_of_deeper (Reads.tuple ho hc hd q1) (n := PyData.depthAll ds) (by simp only [PyData.depth]; omega) q2
    refine ⟨"tuple", "tuple.__repr__", F.slot_tuple_repr, F.slot_tuple_str, F.slot_tuple_format, fun s hk0 => ⟨o, hk0 _ _ ho, hc⟩, fun A E s Q hg hu hk0 hQ => ?_⟩
    simp only [PyData.depth] at hu
    simp only [PyData.shown] at hQ
    exact call_tuple_reprK ho hc hd hna q3 hg (fun b _ => Clear.nil b) hu hk0 hQ hz2
  | dct he hq =>
    rename_i a kvs ps
    refine far _ rfl ?_
    have hz2 : (dictText (PyData.shownKv ps)).length ≤ sizeLine := by simpa only [PyData.shown] using sz
    obtain ⟨_, hsys, vs, kv, o, es, ep, ho, hc, hd, _, hp, _⟩ := dk_of I.hok he
    obtain ⟨a1, a2, bs, q1, q2, q3, q4⟩ := DXk.shw I ps kvs vs es.toList hq kv hp (by simpa [PyData.showable] using sw) fun t ht => Nat.le_trans (dictText_mem_le ht) hz2
    have hna := not_mem_of_deeper (Reads.dict ho hc.1 hd q1 q2) (n := PyData.depthKv ps) (by simp only [PyData.depth]; omega) q3
    refine ⟨"dict", "dict.__repr__", F.slot_dict_repr, F.slot_dict_str, F.slot_dict_format, fun s hk0 => ⟨o, hk0 _ _ ho, hc.1⟩, fun A E s Q hg hu hk0 hQ => ?_⟩
    simp only [PyData.depth] at hu
    simp only [PyData.shown] at hQ
    exact call_dict_reprK ho hc.1 hd hsys hna q4 hg (fun b _ => Clear.nil b) hu hk0 hQ hz2
end
mutual
/-- what a value is as data -/
def yOf : D → Option PyData
  | .non => some .none
  | .bl b => some (.bool b)
  | .int i => some (.int i)
  | .str s => some (.str s)
  | .tup ds => (yOfs ds).map .tuple
  | .lst ds => (yOfs ds).map .list
  | .dct ks => (yOfK ks).map .dict
  | .ins _ _ => none
  | .ty _ => none
  | .scr _ => none
  | .exv _ _ _ => none
def yOfs : List D → Option (List PyData)
  | [] => some []
  | d :: ds => (yOf d).bind fun p => (yOfs ds).map (p :: ·)
def yOfK : List (Key × D) → Option (List (PyData × PyData))
  | [] => some []
  | (k, d) :: ds => (yOf d).bind fun p => (yOfK ds).map ((keyP k, p) :: ·)
end
mutual
theorem Rp.dx {g : G} {F : AP} {H : Hp} : ∀ (d : D) (v : V) (p : PyData), Rp g F H d v → yOf d = some p → DX g.K H v p
  | .non, v, p, r, e => by simp only [Rp] at r; simp only [yOf] at e; cases e; subst r; exact .non
  | .bl b, v, p, r, e => by simp only [Rp] at r; simp only [yOf] at e; cases e; subst r; exact .bl b
  | .int b, v, p, r, e => by simp only [Rp] at r; simp only [yOf] at e; cases e; subst r; exact .int b
  | .str b, v, p, r, e => by simp only [Rp] at r; simp only [yOf] at e; cases e; subst r; exact .str b
  | .tup ds, v, p, r, e => by
    simp only [Rp] at r
    simp only [yOf] at e
    obtain ⟨a, vs, rfl, t, q⟩ := r
    obtain ⟨ps, h1, rfl⟩ := Option.map_eq_some_iff.mp e
    exact .tup t.sq (Rps.dx ds vs ps q h1)
  | .lst ds, v, p, r, e => by
    simp only [Rp] at r
    simp only [yOf] at e
    obtain ⟨a, vs, rfl, f, t, q⟩ := r
    obtain ⟨ps, h1, rfl⟩ := Option.map_eq_some_iff.mp e
    exact .lst (.of t) (Rps.dx ds vs ps q h1)
  | .dct ks, v, p, r, e => by
    simp only [Rp] at r
    simp only [yOf] at e
    obtain ⟨a, vs, rfl, f, t, q⟩ := r
    obtain ⟨ps, h1, rfl⟩ := Option.map_eq_some_iff.mp e
    exact .dct t (RpK.dx ks vs ps q h1)
  | .ins _ _, v, p, r, e => by simp [yOf] at e
  | .ty _, v, p, r, e => by simp [yOf] at e
  | .scr _, v, p, r, e => by simp [yOf] at e
  | .exv _ _ _, v, p, r, e => by simp [yOf] at e
theorem Rps.dx {g : G} {F : AP} {H : Hp} : ∀ (d : List D) (v : List V) (p : List PyData), Rps g F H d v → yOfs d = some p → DXs g.K H v p
  | [], v, p, r, e => by simp only [Rps] at r; simp only [yOfs] at e; cases e; subst r; exact .nil
  | d :: ds, v, p, r, e => by
    simp only [Rps] at r
    simp only [yOfs] at e
    obtain ⟨u, s, rfl, r1, r2⟩ := r
    obtain ⟨p1, h1, h2⟩ := Option.bind_eq_some_iff.mp e
    obtain ⟨ps, h3, rfl⟩ := Option.map_eq_some_iff.mp h2
    exact .cons (Rp.dx d u p1 r1 h1) (Rps.dx ds s ps r2 h3)
theorem RpK.dx {g : G} {F : AP} {H : Hp} : ∀ (d : List (Key × D)) (v : List (Key × V)) (p : List (PyData × PyData)), RpK g F H d v → yOfK d = some p → DXk g.K H v p
  | [], v, p, r, e => by simp only [RpK] at r; simp only [yOfK] at e; cases e; subst r; exact .nil
  | (k, d) :: ds, v, p, r, e => by
    simp only [RpK] at r
    simp only [yOfK] at e
    obtain ⟨u, s, rfl, r1, r2⟩ := r
    obtain ⟨p1, h1, h2⟩ := Option.bind_eq_some_iff.mp e
    obtain ⟨ps, h3, rfl⟩ := Option.map_eq_some_iff.mp h2
    exact .cons (Rp.dx d u p1 r1 h1) (RpK.dx ds s ps r2 h3)
end
def reprX (p : PyData) : Option Str := if p.depth ≤ 64 ∧ p.showable = true ∧ p.shown.length ≤ sizeLine then some p.shown else none
def reprXD : List D → Option D
  | [d] => (yOf d).bind fun p => (reprX p).map .str
  | _ => none
theorem cd_reprX {g : G} : CallD g (fun xs H Q => ∃ x p, xs = [x] ∧ DX g.K H x p ∧ p.depth ≤ 64 ∧ p.showable = true ∧ p.shown.length ≤ sizeLine ∧ Q (.str p.shown) H) reprXD := by
  intro F H vs ds d Q fr r0 e q
  unfold reprXD at e
  split at e
  · obtain ⟨p, h1, h2⟩ := Option.bind_eq_some_iff.mp e
    obtain ⟨z, h3, rfl⟩ := Option.map_eq_some_iff.mp h2
    unfold reprX at h3
    split at h3
    · rename_i hh
      cases h3
      obtain ⟨v, rfl, r⟩ := Rps.one.mp r0
      exact ⟨v, p, rfl, Rp.dx _ _ _ r h1, hh.1, hh.2.1, hh.2.2, q F H _ (.refl fr) (by simp [Rp])⟩
    · cases h3
  · cases e
section
variable {X : Cx} {e : Expr} {es : List Expr} {p pos : Pos} {fs : M (List D)}
theorem b_reprX (gd : X.A.guards = some []) {k : Nat} (hr : Room k X.A) (hm : X.mg "repr" = none) (ha : PA X (e :: es) (tA (gx X) fs)) (hg : Gl X "repr" := by rfl) (he : starEach (e :: es) X.env = (false, eval e X.env) :: starEach es X.env := by rfl)
    (hpl : (backTo pos (starEach es X.env)).any (·.1) = false := by rfl) : PE X (.Call (.Name "repr" p) (e :: es) [] pos) (tD (gx X) (dCall reprXD fs)) := d_callB (call_reprX gd (by have := hr.un; omega)) cd_reprX hg hm (by decide +kernel) ha (he := he) (hpl := hpl)
end
end DL
set_option Elab.async false
set_option linter.all false
set_option maxRecDepth 100000
set_option maxHeartbeats 4000000
/-! Data with dicts in it that shows: depth, and a bound for the shown text. -/
namespace DL
open PySem PySem.Spec PyProof.Rows L2 PySem.SeqAt PySem.PyData
def keyX : Key → D
  | .inl i => .int i
  | .inr x => .str x
mutual
def okX : D → Bool
  | .non => true
  | .bl _ => true
  | .int i => decide (i.natAbs < 10 ^ 250)
  | .str x => x.cps.all (· < 0x110000)
  | .tup ds => okXs ds
  | .lst ds => okXs ds
  | .dct ks => okXk ks
  | _ => false
def okXs : List D → Bool
  | [] => true
  | d :: ds => okX d && okXs ds
def okXk : List (Key × D) → Bool
  | [] => true
  | (k, d) :: ds => okD (keyX k) && okX d && okXk ds
end
mutual
def depX : D → Nat
  | .tup ds => depXs ds + 1
  | .lst ds => depXs ds + 1
  | .dct ks => depXk ks + 1
  | _ => 0
def depXs : List D → Nat
  | [] => 0
  | d :: ds => max (depX d) (depXs ds)
def depXk : List (Key × D) → Nat
  | [] => 0
  | (_, d) :: ds => max (depX d) (depXk ds)
end
mutual
def wtX : D → Nat
  | .str x => 10 * x.length + 2
  | .tup ds => wtXs ds + 3
  | .lst ds => wtXs ds + 3
  | .dct ks => wtXk ks + 3
  | _ => 260
def wtXs : List D → Nat
  | [] => 0
  | d :: ds => wtX d + 2 + wtXs ds
def wtXk : List (Key × D) → Nat
  | [] => 0
  | (k, d) :: ds => wtD (keyX k) + wtX d + 4 + wtXk ds
end
theorem key_ok {k : Key} (h : okD (keyX k) = true) : (keyP k).depth = 0 ∧ (keyP k).showable = true ∧ (keyP k).shown.length ≤ wtD (keyX k) := by
  obtain ⟨p, e, _, d, s, l⟩ := shp_ok (keyX k) h
  cases k with
  | inl i => cases e; exact ⟨d, s, l⟩
  | inr x => cases e; exact ⟨d, s, l⟩
mutual
theorem yOf_ok : ∀ d : D, okX d = true → ∃ p, yOf d = some p ∧ p.depth = depX d ∧ p.showable = true ∧ p.shown.length ≤ wtX d
  | .non, _ => ⟨_, rfl, rfl, rfl, by decide⟩
  | .bl b, _ => ⟨_, rfl, rfl, rfl, by cases b <;> decide⟩
  | .int i, h => by
    have hi := int_shown (i := i) (by simpa only [okX, decide_eq_true_eq] using h)
    exact ⟨_, rfl, rfl, by simp only [PyData.showable, decide_eq_true_eq]; exact hi.1, by simp only [PyData.shown, wtX]; exact hi.2⟩
  | .str x, h => by
    obtain ⟨p, e, _, d, s, l⟩ := shp_ok (.str x) (by simpa only [okX, okD] using h)
    cases e
    exact ⟨_, rfl, d, s, l⟩
  | .tup ds, h => by
    obtain ⟨ps, e, dp, sw, ln⟩ := yOfs_ok ds (by simpa only [okX] using h)
    refine ⟨.tuple ps, by simp only [yOf, e, Option.map_some], by simp only [PyData.depth, depX, dp], by simpa only [PyData.showable] using sw, ?_⟩
    have := tupleText_len_le (PyData.shownAll ps)
    simp only [PyData.shown, wtX]
    have := PyData.shownAll_length ps
    omega
  | .lst ds, h => by
    obtain ⟨ps, e, dp, sw, ln⟩ := yOfs_ok ds (by simpa only [okX] using h)
    refine ⟨.list ps, by simp only [yOf, e, Option.map_some], by simp only [PyData.depth, depX, dp], by simpa only [PyData.showable] using sw, ?_⟩
    have := listText_len_le (PyData.shownAll ps)
    simp only [PyData.shown, wtX]
    have := PyData.shownAll_length ps
    omega
  | .dct ks, h => by
    obtain ⟨ps, e, dp, sw, ln⟩ := yOfK_ok ks (by simpa only [okX] using h)
    refine ⟨.dict ps, by simp only [yOf, e, Option.map_some], by simp only [PyData.depth, depX, dp], by simpa only [PyData.showable] using sw, ?_⟩
    have := dictText_len_le (PyData.shownKv ps)
    simp only [PyData.shown, wtX]
    omega
  | .ins _ _, h => by simp [okX] at h
  | .ty _, h => by simp [okX] at h
  | .scr _, h => by simp [okX] at h
  | .exv _ _ _, h => by simp [okX] at h
theorem yOfs_ok : ∀ ds : List D, okXs ds = true → ∃ ps, yOfs ds = some ps ∧ PyData.depthAll ps = depXs ds ∧ PyData.showableAll ps = true ∧ ((PyData.shownAll ps).map (·.length)).sum + 2 * ps.length ≤ wtXs ds
  | [], _ => ⟨[], rfl, rfl, rfl, by simp [PyData.shownAll, wtXs]⟩
  | d :: ds, h => by
    simp only [okXs, Bool.and_eq_true] at h
    obtain ⟨p, e1, d1, s1, l1⟩ := yOf_ok d h.1
    obtain ⟨ps, e2, d2, s2, l2⟩ := yOfs_ok ds h.2
    refine ⟨p :: ps, by simp only [yOfs, e1, e2, Option.bind_some, Option.map_some], by simp only [PyData.depthAll, depXs, d1, d2], by simp only [PyData.showableAll, s1, s2, Bool.and_self], ?_⟩
    simp only [PyData.shownAll, wtXs, List.map_cons, List.sum_cons, List.length_cons]
    omega
theorem yOfK_ok : ∀ ks : List (Key × D), okXk ks = true → ∃ ps, yOfK ks = some ps ∧ PyData.depthKv ps = depXk ks ∧ PyData.showableKv ps = true ∧ ((PyData.shownKv ps).map (·.length)).sum + 2 * (PyData.shownKv ps).length ≤ wtXk ks
  | [], _ => ⟨[], rfl, rfl, rfl, by simp [PyData.shownKv, wtXk]⟩
  | (k, d) :: ds, h => by
    simp only [okXk, Bool.and_eq_true] at h
    obtain ⟨k1, k2, k3⟩ := key_ok h.1.1
    obtain ⟨p, e1, d1, s1, l1⟩ := yOf_ok d h.1.2
    obtain ⟨ps, e2, d2, s2, l2⟩ := yOfK_ok ds h.2
    refine ⟨(keyP k, p) :: ps, by simp only [yOfK, e1, e2, Option.bind_some, Option.map_some], by simp only [PyData.depthKv, depXk, d1, d2, k1]; omega, by simp only [PyData.showableKv, s1, s2, k2, Bool.and_self], ?_⟩
    simp only [PyData.shownKv, wtXk, List.map_cons, List.sum_cons, List.length_cons, strLen_append]
    have : (": " : Str).length = 2 := rfl
    omega
end
/-- shows: within depth k, the text within n -/
def NiceX (k n : Nat) (d : D) : Prop := okX d = true ∧ depX d ≤ k ∧ wtX d ≤ n
theorem NiceX.mono {k k' n n' : Nat} {d : D} (h : NiceX k n d) (hk : k ≤ k') (hn : n ≤ n') : NiceX k' n' d := ⟨h.1, Nat.le_trans h.2.1 hk, Nat.le_trans h.2.2 hn⟩
mutual
theorem okD_X : ∀ d : D, okD d = true → okX d = true ∧ depX d = depD d ∧ wtX d = wtD d
  | .non, _ => ⟨rfl, rfl, rfl⟩
  | .bl _, _ => ⟨rfl, rfl, rfl⟩
  | .int _, h => ⟨by simpa only [okX, okD] using h, rfl, rfl⟩
  | .str _, h => ⟨by simpa only [okX, okD] using h, rfl, rfl⟩
  | .tup ds, h => by
    obtain ⟨a, b, c⟩ := okDs_X ds (by simpa only [okD] using h)
    exact ⟨by simpa only [okX] using a, by simp only [depX, depD, b], by simp only [wtX, wtD, c]⟩
  | .lst ds, h => by
    obtain ⟨a, b, c⟩ := okDs_X ds (by simpa only [okD] using h)
    exact ⟨by simpa only [okX] using a, by simp only [depX, depD, b], by simp only [wtX, wtD, c]⟩
  | .dct _, h => by simp [okD] at h
  | .ins _ _, h => by simp [okD] at h
  | .ty _, h => by simp [okD] at h
  | .scr _, h => by simp [okD] at h
  | .exv _ _ _, h => by simp [okD] at h
theorem okDs_X : ∀ ds : List D, okDs ds = true → okXs ds = true ∧ depXs ds = depDs ds ∧ wtXs ds = wtDs ds
  | [], _ => ⟨rfl, rfl, rfl⟩
  | d :: ds, h => by
    simp only [okDs, Bool.and_eq_true] at h
    obtain ⟨a, b, c⟩ := okD_X d h.1
    obtain ⟨a2, b2, c2⟩ := okDs_X ds h.2
    exact ⟨by simp only [okXs, a, a2, Bool.and_self], by simp only [depXs, depDs, b, b2], by simp only [wtXs, wtDs, c, c2]⟩
end
theorem Nice.x {k n : Nat} {d : D} (h : Nice k n d) : NiceX k n d := by
  obtain ⟨a, b, c⟩ := okD_X d h.1
  exact ⟨a, by rw [b]; exact h.2.1, by rw [c]; exact h.2.2⟩
theorem niceX_all {k n : Nat} : ∀ {ds : List D}, (∀ d ∈ ds, NiceX k n d) → okXs ds = true ∧ depXs ds ≤ k ∧ wtXs ds ≤ ds.length * (n + 2)
  | [], _ => ⟨rfl, by simp [depXs], by simp [wtXs]⟩
  | d :: ds, h => by
    obtain ⟨a, b, c⟩ := h d (by simp)
    obtain ⟨a2, b2, c2⟩ := niceX_all fun x hx => h x (List.mem_cons_of_mem _ hx)
    refine ⟨by simp only [okXs, a, a2, Bool.and_self], by simp only [depXs]; omega, ?_⟩
    simp only [wtXs, List.length_cons, Nat.add_mul, Nat.one_mul]
    omega
theorem NiceX.lst {k n : Nat} {ds : List D} (h : ∀ d ∈ ds, NiceX k n d) : NiceX (k + 1) (ds.length * (n + 2) + 3) (.lst ds) := by
  obtain ⟨a, b, c⟩ := niceX_all h
  exact ⟨by simpa only [okX] using a, by simp only [depX]; omega, by simp only [wtX]; omega⟩
theorem NiceX.tup {k n : Nat} {ds : List D} (h : ∀ d ∈ ds, NiceX k n d) : NiceX (k + 1) (ds.length * (n + 2) + 3) (.tup ds) := by
  obtain ⟨a, b, c⟩ := niceX_all h
  exact ⟨by simpa only [okX] using a, by simp only [depX]; omega, by simp only [wtX]; omega⟩
/-- it shows -/
theorem NiceX.repr {n : Nat} {d : D} (h : NiceX 64 n d) (hn : n ≤ 16777216) : ∃ z : Str, reprXD [d] = some (.str z) := by
  obtain ⟨p, e, dp, sw, ln⟩ := yOf_ok d h.1
  refine ⟨p.shown, ?_⟩
  unfold reprXD
  show (yOf d).bind _ = _
  rw [e, Option.bind_some]
  unfold reprX
  rw [if_pos ⟨by rw [dp]; exact h.2.1, sw, by rw [sizeLine_eq]; exact Nat.le_trans (Nat.le_trans ln h.2.2) hn⟩]
  rfl
end DL
set_option Elab.async false
set_option linter.all false
set_option maxRecDepth 100000
set_option maxHeartbeats 4000000
/-! for key in row: own[key] = list(row[key]), row a told dict, own a dict of one's own -/
namespace DL
open PySem PySem.Spec PyProof.Rows L2
end DL
set_option Elab.async false
set_option linter.all false
set_option maxRecDepth 100000
set_option maxHeartbeats 4000000
/-! xs != [], whatever stands in xs -/
namespace DL
open PySem PySem.Spec PyProof.Rows L2
end DL
set_option Elab.async false
set_option linter.all false
set_option maxRecDepth 100000
set_option maxHeartbeats 4000000
/-! x in (a, b, ..): a tuple of flat items -/
namespace DL
open PySem PySem.Spec PyProof.Rows L2
end DL
set_option Elab.async false
set_option linter.all false
set_option maxRecDepth 100000
set_option maxHeartbeats 4000000
/-! Questions to a chain against the law's own one. -/
namespace DL.Sh
open PySem PySem.Spec PyProof.Rows L2
/-- one step backwards -/
local macro_rules | `(tactic| walk_at "e1") => `(tactic| first
  | with_reducible refine S_next ?_ | with_reducible refine S_ret ?_ | with_reducible refine S_drop ?_ | with_reducible refine S_if ?_ | with_reducible refine S_for ?_
  | with_reducible refine Ev_C ?_ | with_reducible refine Ev_fz ?_ | with_reducible refine Ev_pur ?_ | with_reducible refine Ev_op2 ?_ | with_reducible refine Ev_top2 ?_ | with_reducible refine Ev_op1 ?_ | with_reducible refine Ev_val ?_
  | with_reducible refine Ev_tand ?_ | with_reducible refine Ev_tor ?_ | with_reducible refine Ev_tnot ?_ | with_reducible refine Ev_and ?_ | with_reducible refine Ev_or ?_ | with_reducible refine Ev_not ?_ | with_reducible refine Ev_if ?_
  | with_reducible refine Ev_anil ?_ | with_reducible refine Ev_acons ?_ | with_reducible refine Ev_eanil ?_ | with_reducible refine Ev_eacons ?_ | with_reducible refine Ev_call ?_ | with_reducible refine Ev_onone ?_ | with_reducible refine Ev_osome ?_
  | with_reducible refine Ev_sl ?_ | with_reducible refine Ev_esl ?_ | with_reducible refine Ev_eop2 ?_ | with_reducible refine Ev_eargs ?_ | with_reducible refine Ev_iseq ?_ | with_reducible refine Ev_iargs ?_ | with_reducible refine Ev_yes ?_
  | with_reducible refine Ev_chain ?_ | with_reducible refine Ev_tchain ?_
  | (with_reducible refine Ev_tbor ?_; simp only [frzE, Option.map_some, Option.map_none, O.fz, fzs, fzs_ints, fzs_purs])
  | (with_reducible refine Ev_bor ?_; simp only [frzE, Option.map_some, Option.map_none, O.fz, fzs, fzs_ints, fzs_purs])
  | ((with_reducible show (if (!true) = true then _ else _)); rw [if_neg (by decide)]) | ((with_reducible show (if (!false) = true then _ else _)); rw [if_pos (by decide)])
  | with_reducible refine Ev_call1 ?_ | ((with_reducible show (if true = true then _ else _)); rw [if_pos rfl]) | ((with_reducible show (if false = true then _ else _)); rw [if_neg Bool.false_ne_true])
  | ((with_reducible show Ev (dVar _) _ _); refine Ev_var rfl ?_)
  | ((with_reducible show Ev (eMove _) _ _); refine Ev_move rfl ?_; (try simp only [List.set_cons_zero, List.set_cons_succ]))
  | ((with_reducible refine S_set ?_))
  | (with_reducible refine S_asg ?_)
  | ((with_reducible refine Ev_tup ?_)) | ((with_reducible refine Ev_lst ?_)) | ((with_reducible refine Ev_elst ?_)) | ((with_reducible refine Ev_etup ?_))
  | ((with_reducible show ∃ _, powD _ _ = some _ ∧ _); refine ⟨_, pow18, ?_⟩) | ((with_reducible show ∃ _, powD _ _ = some _ ∧ _); refine ⟨_, rfl, ?_⟩; simp only [Int.reduceToNat, Int.reducePow]) | ((with_reducible show ∃ _, addD _ _ = some _ ∧ _); refine ⟨_, add_ii _ _, ?_⟩) | ((with_reducible show ∃ _, eqD _ _ = some _ ∧ _); refine ⟨_, eq_dec _ _, ?_⟩) | ((with_reducible show ∃ _, neD _ _ = some _ ∧ _); refine ⟨_, ne_dec _ _, ?_⟩) | ((with_reducible show ∃ _, ltD _ _ = some _ ∧ _); refine ⟨_, lt_dec _ _, ?_⟩) | ((with_reducible show ∃ _, leD _ _ = some _ ∧ _); refine ⟨_, le_dec _ _, ?_⟩) | ((with_reducible show ∃ _, gtD _ _ = some _ ∧ _); refine ⟨_, gt_dec _ _, ?_⟩) | ((with_reducible show ∃ _, geD _ _ = some _ ∧ _); refine ⟨_, ge_dec _ _, ?_⟩) | ((with_reducible show ∃ _, subD _ _ = some _ ∧ _); refine ⟨_, sub_ii _ _, ?_⟩) | ((with_reducible show ∃ _, negD _ = some _ ∧ _); refine ⟨_, neg_i _, ?_⟩)
  | ((with_reducible show ∃ _, mulD _ _ = some _ ∧ _); refine ⟨_, mul_ii (by omega), ?_⟩) | ((with_reducible show ∃ _, modD _ _ = some _ ∧ _); refine ⟨_, mod_ii (by omega), ?_⟩) | ((with_reducible show ∃ _, divD _ _ = some _ ∧ _); refine ⟨_, div_ii (by omega) (by omega), ?_⟩)
  | ((with_reducible show ∃ _, mixE _ _ _ = some _ ∧ _); refine ⟨_, mix_nil rfl, ?_⟩)
  | ((with_reducible show _ < List.length _ ∧ _); refine ⟨of_decide_eq_true rfl, ?_⟩; (try simp only [List.set_cons_zero, List.set_cons_succ, O.fz, fzs_ints, fzs_purs, keepE_cons, keepE_nil, wipeE]))
  | ((with_reducible show (_ < List.length _ ∧ _) ∧ _); refine ⟨of_decide_eq_true rfl, ?_⟩; (try simp only [List.set_cons_zero, List.set_cons_succ, O.fz, fzs_ints, fzs_purs, keepE_cons, keepE_nil, wipeE]))
  | ((with_reducible show List.length _ ≤ 1000 ∧ _); refine ⟨of_decide_eq_true rfl, ?_⟩; (try simp only [List.set_cons_zero, List.set_cons_succ, O.fz, fzs_ints, fzs_purs, keepE_cons, keepE_nil, wipeE]))
  | ((with_reducible show flatO _ = true ∧ _); refine ⟨rfl, ?_⟩)
  | ((with_reducible show Ev (eaLate _ _) _ _); refine Ev_late rfl ?_)
  | with_reducible refine S_setIx ?_
  | ((with_reducible show EvS (sAugIx _ _ _ _) _ _ _ _ _); refine S_augIx rfl ?_)
  | ((with_reducible show EvS (sAug _ _ _) _ _ _ _ _); refine S_aug rfl ?_)
  | ((with_reducible show ∃ a b c, _ = D.int a ∧ _ ∧ _ ∧ _); refine ⟨_, _, _, rfl, rfl, rfl, ?_⟩; simp only [List.set_cons_zero, List.set_cons_succ, Int.toNat_ofNat, Int.reduceToNat])
  | ((with_reducible show ∃ a b c, _ = D.int a ∧ _ ∧ _ ∧ _); refine ⟨_, _, _, rfl, rfl, rfl, ?_⟩)
  | ((with_reducible show ∃ _, ixD _ _ = some _ ∧ _); refine ⟨_, rfl, ?_⟩)
  | ((with_reducible show ∃ _, lenD _ = some _ ∧ _); refine ⟨_, rfl, ?_⟩)
  | ((with_reducible show ∃ _, absD _ = some _ ∧ _); refine ⟨_, rfl, ?_⟩)
  | ((with_reducible show ∃ _, itemsD _ = some _ ∧ _); refine ⟨_, rfl, ?_⟩)
  | ((with_reducible show ∃ _, tupleD _ = some _ ∧ _); refine ⟨_, rfl, ?_⟩)
  | ((with_reducible show ∃ _, listD _ = some _ ∧ _); refine ⟨_, rfl, ?_⟩)
  | ((with_reducible show ∃ _, listL _ = some _ ∧ _); refine ⟨_, rfl, ?_⟩)
  | ((with_reducible show ∃ _, toIntD _ = some _ ∧ _); refine ⟨_, rfl, ?_⟩)
  | ((with_reducible show ∃ _, isD _ _ = some _ ∧ _); refine ⟨_, rfl, ?_⟩)
  | ((with_reducible show ∃ _, isNotD _ _ = some _ ∧ _); refine ⟨_, rfl, ?_⟩)
  | ((with_reducible show ∃ _, takeS _ _ = some _ ∧ _); refine ⟨_, rfl, ?_⟩)
  | ((with_reducible show ∃ _, fName _ _ _ = some _ ∧ _); refine ⟨_, rfl, ?_⟩; (try simp only [List.set_cons_zero, List.set_cons_succ]))
  | ((with_reducible show ∃ _, fTup _ _ _ _ = some _ ∧ _); refine ⟨_, rfl, ?_⟩; (try simp only [List.set_cons_zero, List.set_cons_succ]))
  | ((with_reducible show ∃ _, slD _ _ _ = some _ ∧ _); refine ⟨_, rfl, ?_⟩)
  | ((with_reducible show ∃ _, slL _ _ _ = some _ ∧ _); refine ⟨_, rfl, ?_⟩)
  | ((with_reducible show ∃ _, List.set _ _ _ = some _ ∧ _); refine ⟨_, rfl, ?_⟩)
  | ((with_reducible show ∃ _, getElem? _ _ = some _ ∧ _); refine ⟨_, rfl, ?_⟩)
  | ((with_reducible show ∃ _, rangeD1 [D.int (Nat.cast _)] = some _ ∧ _); refine ⟨_, range_nat (by omega), ?_⟩) | ((with_reducible show ∃ _, rangeD1 _ = some _ ∧ _); refine ⟨_, range_lit (by omega) (by omega), ?_⟩)
  | ((with_reducible show ∃ _, _ = D.int _ ∧ _); refine ⟨_, rfl, ?_⟩)
  | ((with_reducible show ∃ _, maxD [D.int _, D.int _] = some _ ∧ _); refine ⟨_, rfl, ?_⟩) | ((with_reducible show ∃ _, minD [D.int _, D.int _] = some _ ∧ _); refine ⟨_, rfl, ?_⟩)
  | ((with_reducible show ∃ _, truD _ = some _ ∧ _); refine ⟨_, rfl, ?_⟩)
  | ((with_reducible show ∃ _, _ = D.bl _ ∧ _); refine ⟨_, rfl, ?_⟩)
  | ((with_reducible show ∃ _, neD (.str _) (.str _) = some _ ∧ _); refine ⟨_, ne_str _, ?_⟩) | ((with_reducible show ∃ _, eqD (.str _) (.str _) = some _ ∧ _); refine ⟨_, eq_str _, ?_⟩))
local macro_rules | `(tactic| walk_at "e") => `(tactic| repeat walk_at "e1")
local macro_rules | `(tactic| walk_at "s") => `(tactic| repeat (first | with_reducible refine S_seq ?_ | walk_at "e1"))
local macro_rules | `(tactic| walk_at "n") => `(tactic| try simp only [List.set_cons_zero, List.set_cons_succ, O.fz, fzs_ints, fzs_purs, keepE_cons, keepE_nil, wipeE])
local macro_rules | `(tactic| walk_at "e1") => `(tactic| ((with_reducible show Ev (eCall f_law_take _ _) _ _); refine Ev_take rfl (by assumption) ?_; (try simp only [List.set_cons_zero, List.set_cons_succ])))
local macro_rules | `(tactic| walk_at "e1") => `(tactic| ((with_reducible show ∀ _ _, _ → _ → BagOk _ → _); intro r o' h1 h2 hb; (try simp only [List.set_cons_zero, List.set_cons_succ, O.fz])))
local macro_rules | `(tactic| walk_at "e1") => `(tactic| ((with_reducible show _ < _ ∧ _); refine ⟨by omega, ?_⟩))
local macro_rules | `(tactic| walk_at "e1") => `(tactic| ((with_reducible show Ev (eCall f_law_size _ _) _ _); refine Ev_size rfl (by assumption) ?_; (try simp only [List.set_cons_zero, List.set_cons_succ])))
local macro_rules | `(tactic| walk_at "e1") => `(tactic| ((with_reducible show ∃ _, lenD [D.lst (rowsD _)] = some _ ∧ _); refine ⟨_, rfl, ?_⟩; rw [rowsD_len]))
local macro_rules | `(tactic| walk_at "e1") => `(tactic| ((with_reducible show ∃ _, isaD _ = some _ ∧ _); refine ⟨_, rfl, ?_⟩))
local macro_rules | `(tactic| walk_at "e1") => `(tactic| ((with_reducible show ∃ _, rangeD1 [D.int (_ + 1)] = some _ ∧ _); refine ⟨_, range_succ' (by omega), ?_⟩))
local macro_rules | `(tactic| walk_at "e1") => `(tactic| ((with_reducible show ∃ _, rangeD1 [D.int (1 + _)] = some _ ∧ _); refine ⟨_, range_one_add (by omega) (by omega), ?_⟩))
local macro_rules | `(tactic| walk_at "e1") => `(tactic| ((with_reducible show EvS (sFrz _ _) _ _ _ _ _); refine S_frz rfl ?_; (try simp only [List.set_cons_zero, List.set_cons_succ, O.fz, fzs, fzs_ints, fzs_purs])))
local macro_rules | `(tactic| walk_at "e1") => `(tactic| first | with_reducible refine S_par2 ?_ | with_reducible refine S_par3 ?_)
local macro_rules | `(tactic| walk_at "e1") => `(tactic| ((with_reducible show ∃ o1 o2 : O, _ = [o1, o2] ∧ _); refine ⟨_, _, rfl, ?_⟩))
local macro_rules | `(tactic| walk_at "e1") => `(tactic| ((with_reducible show ∃ o1 o2 o3 : O, _ = [o1, o2, o3] ∧ _); refine ⟨_, _, _, rfl, ?_⟩))
local macro_rules | `(tactic| walk_at "e1") => `(tactic| ((with_reducible show (_ < List.length _ ∧ _ < List.length _ ∧ _ < List.length _) ∧ _); refine ⟨of_decide_eq_true rfl, ?_⟩; (try simp only [List.set_cons_zero, List.set_cons_succ, O.fz, fzs_ints, fzs_purs, keepE_cons, keepE_nil, wipeE])))
local macro_rules | `(tactic| walk_at "e1") => `(tactic| first
  | ((with_reducible show Ev (eMCallD _ _ _ _ _) _ _); refine Ev_mcallD (fun _ _ _ h => runB_nil h) ?_)
  | ((with_reducible show Ev (eMCallK _ _ _ _ _ _) _ _); refine Ev_mcallK (fun _ _ _ h => runB_nil h) ?_)
  | ((with_reducible show Ev (eCallK _ _ _) _ _); refine Ev_callK (fun _ _ _ h => runB_nil h) ?_)
  | with_reducible refine Ev_make ?_
  | ((with_reducible show ∃ _, fldD "Endless" "wide" (endD _ _) = some _ ∧ _); refine ⟨_, end_wide, ?_⟩)
  | ((with_reducible show ∃ _, fldD "Endless" "rows" (endD _ _) = some _ ∧ _); refine ⟨_, end_rows, ?_⟩)
  | ((with_reducible show ∃ _, fldD "Endless" "sums" (endD _ _) = some _ ∧ _); refine ⟨_, end_sums, ?_⟩)
  | ((with_reducible show isIns _ _ (endD _ _) = true ∧ _); refine ⟨rfl, ?_⟩)
  | ((with_reducible show ∃ _, divmodD [D.int _, D.int _] = some _ ∧ _); refine ⟨_, divmod_ii (by omega) (by omega), ?_⟩)
  | ((with_reducible show ∃ _, lenD [mapL _ _] = some _ ∧ _); refine ⟨_, mapL_len, ?_⟩)
  | ((with_reducible show ∃ _, itemsD (mapL _ _) = some _ ∧ _); refine ⟨_, mapL_items, ?_⟩)
  | ((with_reducible show (if isNon (D.int _) = true then _ else _)); rw [if_neg (show ¬ (isNon (D.int _) = true) from Bool.false_ne_true)])
  | ((with_reducible show (if isNon D.non = true then _ else _)); rw [if_pos (show isNon D.non = true from rfl)])
  | ((with_reducible show (if (!isNon (D.int _)) = true then _ else _)); rw [if_pos (show (!isNon (D.int _)) = true from rfl)])
  | ((with_reducible show (if (!isNon D.non) = true then _ else _)); rw [if_neg (show ¬ ((!isNon D.non) = true) from Bool.false_ne_true)])
  | ((with_reducible show (if isNon (mapL _ _) = true then _ else _)); rw [if_neg (show ¬ (isNon (mapL _ _) = true) from Bool.false_ne_true)])
  | ((with_reducible show (if isNon (jD none) = true then _ else _)); rw [if_pos (show isNon (jD none) = true from rfl)])
  | ((with_reducible show (if isNon (jD (some _)) = true then _ else _)); rw [if_neg (show ¬ (isNon (jD (some _)) = true) from Bool.false_ne_true)])
  | ((with_reducible show (if (!isNon (jD none)) = true then _ else _)); rw [if_neg (show ¬ ((!isNon (jD none)) = true) from Bool.false_ne_true)])
  | ((with_reducible show (if (!isNon (jD (some _))) = true then _ else _)); rw [if_pos (show (!isNon (jD (some _))) = true from rfl)])
  | with_reducible refine Ev_methT ?_)
local macro_rules | `(tactic| walk_at "e1") => `(tactic| first
  | ((with_reducible show EvS (sTupO _ _) _ _ _ _ _); refine S_tupO ?_)
  | ((with_reducible show Ev eDNew _ _); refine Ev_dnew ?_)
  | ((with_reducible show Ev (eMCallI _ _ _ _ false _ _) _ _); refine Ev_mcallI rfl (Ev_recvN ?_))
  | ((with_reducible show Ev (eMCallI _ _ _ _ true _ _) _ _); refine Ev_mcallI rfl (Ev_recvL ?_))
  | ((with_reducible show ∃ os : List O, O.tup _ = O.tup os ∧ _ ∧ _ ∧ _); refine ⟨_, rfl, rfl, of_decide_eq_true rfl, ?_⟩; simp only [setAll, List.set_cons_zero, List.set_cons_succ])
  | ((with_reducible show isIns _ _ (chD _ _ _ _ _ _ _) = true ∧ _); refine ⟨rfl, ?_⟩))
local macro_rules | `(tactic| walk_at "e1") => `(tactic| first
  | ((with_reducible show ∃ _, fldD "Chain" "firsts" (chD _ _ _ _ _ _ _) = some _ ∧ _); refine ⟨_, ch_firsts, ?_⟩)
  | ((with_reducible show ∃ _, fldD "Chain" "entries" (chD _ _ _ _ _ _ _) = some _ ∧ _); refine ⟨_, ch_entries, ?_⟩)
  | ((with_reducible show ∃ _, fldD "Chain" "rows" (chD _ _ _ _ _ _ _) = some _ ∧ _); refine ⟨_, ch_rows, ?_⟩)
  | ((with_reducible show ∃ _, fldD "Chain" "sums" (chD _ _ _ _ _ _ _) = some _ ∧ _); refine ⟨_, ch_sums, ?_⟩)
  | ((with_reducible show ∃ _, fldD "Chain" "wide" (chD _ _ _ _ _ _ _) = some _ ∧ _); refine ⟨_, ch_wide, ?_⟩))
local macro_rules | `(tactic| walk_at "e1") => `(tactic| first
  | with_reducible refine X_lift ?_ | with_reducible refine X_seq ?_ | with_reducible refine X_if ?_ | with_reducible refine X_ret ?_ | with_reducible refine X_drop ?_ | with_reducible refine X_set ?_ | with_reducible refine X_asg ?_
  | with_reducible refine X_raise1 ?_ | with_reducible refine X_raise0 ?_ | with_reducible refine M_fz ?_ | with_reducible refine M_of ?_ | with_reducible refine M_tup2 ?_ | with_reducible refine M_call ?_ | with_reducible refine S_tryO ?_ | with_reducible refine X_tryO ?_ | with_reducible refine X_for ?_ | with_reducible refine Ev_ifO ?_
  | ((with_reducible show EvM (eMCallX _ _ _ _ false _ _) _ _ _); refine M_mcall rfl (M_call (Ev_recvN ?_)))
  | ((with_reducible show EvM (eMCallX _ _ _ _ true _ _) _ _ _); refine M_mcall rfl (M_call (Ev_recvL ?_))))
local macro_rules | `(tactic| walk_at "e1") => `(tactic| first
  | ((with_reducible show Ev (dIsX _ _ _ _) _ _); refine Ev_isX rfl rfl ?_)
  | ((with_reducible show Ev (dIsXs _ _ _ _) _ _); refine Ev_isXs rfl rfl ?_)
  | ((with_reducible show Ev (dExF _ _ _ _ _) _ _); refine Ev_exF rfl rfl rfl ?_))
/-! what is past at the law's own chain -/
/-! the places of the entries -/
/-! how much the answers take when they are shown -/
--CUT
/-! slots: 0 _law_chain, 1 _law_own, 2 _law_rows, 3 _law_due, 4 _law_found, 5 _law_held_here, 6 _law_places*, 7 _law_number, 8 _law_some, 9 _law_at, 10 _law_deed, 11 _law_row -/
end DL.Sh
set_option Elab.async false
set_option linter.all false
set_option maxRecDepth 100000
set_option maxHeartbeats 4000000
/-! Deeds at a chain and at the law's own one. -/
namespace DL.Sh
open PySem PySem.Spec PyProof.Rows L2
/-- one step backwards -/
local macro_rules | `(tactic| walk_at "e1") => `(tactic| first
  | with_reducible refine S_next ?_ | with_reducible refine S_ret ?_ | with_reducible refine S_drop ?_ | with_reducible refine S_if ?_ | with_reducible refine S_for ?_
  | with_reducible refine Ev_C ?_ | with_reducible refine Ev_fz ?_ | with_reducible refine Ev_pur ?_ | with_reducible refine Ev_op2 ?_ | with_reducible refine Ev_top2 ?_ | with_reducible refine Ev_op1 ?_ | with_reducible refine Ev_val ?_
  | with_reducible refine Ev_tand ?_ | with_reducible refine Ev_tor ?_ | with_reducible refine Ev_tnot ?_ | with_reducible refine Ev_and ?_ | with_reducible refine Ev_or ?_ | with_reducible refine Ev_not ?_ | with_reducible refine Ev_if ?_
  | with_reducible refine Ev_anil ?_ | with_reducible refine Ev_acons ?_ | with_reducible refine Ev_eanil ?_ | with_reducible refine Ev_eacons ?_ | with_reducible refine Ev_call ?_ | with_reducible refine Ev_onone ?_ | with_reducible refine Ev_osome ?_
  | with_reducible refine Ev_sl ?_ | with_reducible refine Ev_esl ?_ | with_reducible refine Ev_eop2 ?_ | with_reducible refine Ev_eargs ?_ | with_reducible refine Ev_iseq ?_ | with_reducible refine Ev_iargs ?_ | with_reducible refine Ev_yes ?_
  | with_reducible refine Ev_chain ?_ | with_reducible refine Ev_tchain ?_
  | (with_reducible refine Ev_tbor ?_; simp only [frzE, Option.map_some, Option.map_none, O.fz, fzs, fzs_ints, fzs_purs])
  | (with_reducible refine Ev_bor ?_; simp only [frzE, Option.map_some, Option.map_none, O.fz, fzs, fzs_ints, fzs_purs])
  | ((with_reducible show (if (!true) = true then _ else _)); rw [if_neg (by decide)]) | ((with_reducible show (if (!false) = true then _ else _)); rw [if_pos (by decide)])
  | with_reducible refine Ev_call1 ?_ | ((with_reducible show (if true = true then _ else _)); rw [if_pos rfl]) | ((with_reducible show (if false = true then _ else _)); rw [if_neg Bool.false_ne_true])
  | ((with_reducible show Ev (dVar _) _ _); refine Ev_var rfl ?_)
  | ((with_reducible show Ev (eMove _) _ _); refine Ev_move rfl ?_; (try simp only [List.set_cons_zero, List.set_cons_succ]))
  | ((with_reducible refine S_set ?_))
  | (with_reducible refine S_asg ?_)
  | ((with_reducible refine Ev_tup ?_)) | ((with_reducible refine Ev_lst ?_)) | ((with_reducible refine Ev_elst ?_)) | ((with_reducible refine Ev_etup ?_))
  | ((with_reducible show ∃ _, powD _ _ = some _ ∧ _); refine ⟨_, pow18, ?_⟩) | ((with_reducible show ∃ _, powD _ _ = some _ ∧ _); refine ⟨_, rfl, ?_⟩; simp only [Int.reduceToNat, Int.reducePow]) | ((with_reducible show ∃ _, addD _ _ = some _ ∧ _); refine ⟨_, add_ii _ _, ?_⟩) | ((with_reducible show ∃ _, eqD _ _ = some _ ∧ _); refine ⟨_, eq_dec _ _, ?_⟩) | ((with_reducible show ∃ _, neD _ _ = some _ ∧ _); refine ⟨_, ne_dec _ _, ?_⟩) | ((with_reducible show ∃ _, ltD _ _ = some _ ∧ _); refine ⟨_, lt_dec _ _, ?_⟩) | ((with_reducible show ∃ _, leD _ _ = some _ ∧ _); refine ⟨_, le_dec _ _, ?_⟩) | ((with_reducible show ∃ _, gtD _ _ = some _ ∧ _); refine ⟨_, gt_dec _ _, ?_⟩) | ((with_reducible show ∃ _, geD _ _ = some _ ∧ _); refine ⟨_, ge_dec _ _, ?_⟩) | ((with_reducible show ∃ _, subD _ _ = some _ ∧ _); refine ⟨_, sub_ii _ _, ?_⟩) | ((with_reducible show ∃ _, negD _ = some _ ∧ _); refine ⟨_, neg_i _, ?_⟩)
  | ((with_reducible show ∃ _, mulD _ _ = some _ ∧ _); refine ⟨_, mul_ii (by omega), ?_⟩) | ((with_reducible show ∃ _, modD _ _ = some _ ∧ _); refine ⟨_, mod_ii (by omega), ?_⟩) | ((with_reducible show ∃ _, divD _ _ = some _ ∧ _); refine ⟨_, div_ii (by omega) (by omega), ?_⟩)
  | ((with_reducible show ∃ _, mixE _ _ _ = some _ ∧ _); refine ⟨_, mix_nil rfl, ?_⟩)
  | ((with_reducible show _ < List.length _ ∧ _); refine ⟨of_decide_eq_true rfl, ?_⟩; (try simp only [List.set_cons_zero, List.set_cons_succ, O.fz, fzs_ints, fzs_purs, keepE_cons, keepE_nil, wipeE]))
  | ((with_reducible show (_ < List.length _ ∧ _) ∧ _); refine ⟨of_decide_eq_true rfl, ?_⟩; (try simp only [List.set_cons_zero, List.set_cons_succ, O.fz, fzs_ints, fzs_purs, keepE_cons, keepE_nil, wipeE]))
  | ((with_reducible show List.length _ ≤ 1000 ∧ _); refine ⟨of_decide_eq_true rfl, ?_⟩; (try simp only [List.set_cons_zero, List.set_cons_succ, O.fz, fzs_ints, fzs_purs, keepE_cons, keepE_nil, wipeE]))
  | ((with_reducible show flatO _ = true ∧ _); refine ⟨rfl, ?_⟩)
  | ((with_reducible show Ev (eaLate _ _) _ _); refine Ev_late rfl ?_)
  | with_reducible refine S_setIx ?_
  | ((with_reducible show EvS (sAugIx _ _ _ _) _ _ _ _ _); refine S_augIx rfl ?_)
  | ((with_reducible show EvS (sAug _ _ _) _ _ _ _ _); refine S_aug rfl ?_)
  | ((with_reducible show ∃ a b c, _ = D.int a ∧ _ ∧ _ ∧ _); refine ⟨_, _, _, rfl, rfl, rfl, ?_⟩; simp only [List.set_cons_zero, List.set_cons_succ, Int.toNat_ofNat, Int.reduceToNat])
  | ((with_reducible show ∃ a b c, _ = D.int a ∧ _ ∧ _ ∧ _); refine ⟨_, _, _, rfl, rfl, rfl, ?_⟩)
  | ((with_reducible show ∃ _, ixD _ _ = some _ ∧ _); refine ⟨_, rfl, ?_⟩)
  | ((with_reducible show ∃ _, lenD _ = some _ ∧ _); refine ⟨_, rfl, ?_⟩)
  | ((with_reducible show ∃ _, absD _ = some _ ∧ _); refine ⟨_, rfl, ?_⟩)
  | ((with_reducible show ∃ _, itemsD _ = some _ ∧ _); refine ⟨_, rfl, ?_⟩)
  | ((with_reducible show ∃ _, tupleD _ = some _ ∧ _); refine ⟨_, rfl, ?_⟩)
  | ((with_reducible show ∃ _, listD _ = some _ ∧ _); refine ⟨_, rfl, ?_⟩)
  | ((with_reducible show ∃ _, listL _ = some _ ∧ _); refine ⟨_, rfl, ?_⟩)
  | ((with_reducible show ∃ _, toIntD _ = some _ ∧ _); refine ⟨_, rfl, ?_⟩)
  | ((with_reducible show ∃ _, isD _ _ = some _ ∧ _); refine ⟨_, rfl, ?_⟩)
  | ((with_reducible show ∃ _, isNotD _ _ = some _ ∧ _); refine ⟨_, rfl, ?_⟩)
  | ((with_reducible show ∃ _, takeS _ _ = some _ ∧ _); refine ⟨_, rfl, ?_⟩)
  | ((with_reducible show ∃ _, fName _ _ _ = some _ ∧ _); refine ⟨_, rfl, ?_⟩; (try simp only [List.set_cons_zero, List.set_cons_succ]))
  | ((with_reducible show ∃ _, fTup _ _ _ _ = some _ ∧ _); refine ⟨_, rfl, ?_⟩; (try simp only [List.set_cons_zero, List.set_cons_succ]))
  | ((with_reducible show ∃ _, slD _ _ _ = some _ ∧ _); refine ⟨_, rfl, ?_⟩)
  | ((with_reducible show ∃ _, slL _ _ _ = some _ ∧ _); refine ⟨_, rfl, ?_⟩)
  | ((with_reducible show ∃ _, List.set _ _ _ = some _ ∧ _); refine ⟨_, rfl, ?_⟩)
  | ((with_reducible show ∃ _, getElem? _ _ = some _ ∧ _); refine ⟨_, rfl, ?_⟩)
  | ((with_reducible show ∃ _, rangeD1 [D.int (Nat.cast _)] = some _ ∧ _); refine ⟨_, range_nat (by omega), ?_⟩) | ((with_reducible show ∃ _, rangeD1 _ = some _ ∧ _); refine ⟨_, range_lit (by omega) (by omega), ?_⟩)
  | ((with_reducible show ∃ _, _ = D.int _ ∧ _); refine ⟨_, rfl, ?_⟩)
  | ((with_reducible show ∃ _, maxD [D.int _, D.int _] = some _ ∧ _); refine ⟨_, rfl, ?_⟩) | ((with_reducible show ∃ _, minD [D.int _, D.int _] = some _ ∧ _); refine ⟨_, rfl, ?_⟩)
  | ((with_reducible show ∃ _, truD _ = some _ ∧ _); refine ⟨_, rfl, ?_⟩)
  | ((with_reducible show ∃ _, _ = D.bl _ ∧ _); refine ⟨_, rfl, ?_⟩)
  | ((with_reducible show ∃ _, neD (.str _) (.str _) = some _ ∧ _); refine ⟨_, ne_str _, ?_⟩) | ((with_reducible show ∃ _, eqD (.str _) (.str _) = some _ ∧ _); refine ⟨_, eq_str _, ?_⟩))
local macro_rules | `(tactic| walk_at "e") => `(tactic| repeat walk_at "e1")
local macro_rules | `(tactic| walk_at "s") => `(tactic| repeat (first | with_reducible refine S_seq ?_ | walk_at "e1"))
local macro_rules | `(tactic| walk_at "n") => `(tactic| try simp only [List.set_cons_zero, List.set_cons_succ, O.fz, fzs_ints, fzs_purs, keepE_cons, keepE_nil, wipeE])
local macro_rules | `(tactic| walk_at "e1") => `(tactic| ((with_reducible show Ev (eCall f_law_take _ _) _ _); refine Ev_take rfl (by assumption) ?_; (try simp only [List.set_cons_zero, List.set_cons_succ])))
local macro_rules | `(tactic| walk_at "e1") => `(tactic| ((with_reducible show ∀ _ _, _ → _ → BagOk _ → _); intro r o' h1 h2 hb; (try simp only [List.set_cons_zero, List.set_cons_succ, O.fz])))
local macro_rules | `(tactic| walk_at "e1") => `(tactic| ((with_reducible show _ < _ ∧ _); refine ⟨by omega, ?_⟩))
local macro_rules | `(tactic| walk_at "e1") => `(tactic| ((with_reducible show Ev (eCall f_law_size _ _) _ _); refine Ev_size rfl (by assumption) ?_; (try simp only [List.set_cons_zero, List.set_cons_succ])))
local macro_rules | `(tactic| walk_at "e1") => `(tactic| ((with_reducible show ∃ _, lenD [D.lst (rowsD _)] = some _ ∧ _); refine ⟨_, rfl, ?_⟩; rw [rowsD_len]))
local macro_rules | `(tactic| walk_at "e1") => `(tactic| ((with_reducible show ∃ _, isaD _ = some _ ∧ _); refine ⟨_, rfl, ?_⟩))
local macro_rules | `(tactic| walk_at "e1") => `(tactic| ((with_reducible show ∃ _, rangeD1 [D.int (_ + 1)] = some _ ∧ _); refine ⟨_, range_succ' (by omega), ?_⟩))
local macro_rules | `(tactic| walk_at "e1") => `(tactic| ((with_reducible show ∃ _, rangeD1 [D.int (1 + _)] = some _ ∧ _); refine ⟨_, range_one_add (by omega) (by omega), ?_⟩))
local macro_rules | `(tactic| walk_at "e1") => `(tactic| ((with_reducible show EvS (sFrz _ _) _ _ _ _ _); refine S_frz rfl ?_; (try simp only [List.set_cons_zero, List.set_cons_succ, O.fz, fzs, fzs_ints, fzs_purs])))
local macro_rules | `(tactic| walk_at "e1") => `(tactic| first | with_reducible refine S_par2 ?_ | with_reducible refine S_par3 ?_)
local macro_rules | `(tactic| walk_at "e1") => `(tactic| ((with_reducible show ∃ o1 o2 : O, _ = [o1, o2] ∧ _); refine ⟨_, _, rfl, ?_⟩))
local macro_rules | `(tactic| walk_at "e1") => `(tactic| ((with_reducible show ∃ o1 o2 o3 : O, _ = [o1, o2, o3] ∧ _); refine ⟨_, _, _, rfl, ?_⟩))
local macro_rules | `(tactic| walk_at "e1") => `(tactic| ((with_reducible show (_ < List.length _ ∧ _ < List.length _ ∧ _ < List.length _) ∧ _); refine ⟨of_decide_eq_true rfl, ?_⟩; (try simp only [List.set_cons_zero, List.set_cons_succ, O.fz, fzs_ints, fzs_purs, keepE_cons, keepE_nil, wipeE])))
local macro_rules | `(tactic| walk_at "e1") => `(tactic| first
  | ((with_reducible show Ev (eMCallD _ _ _ _ _) _ _); refine Ev_mcallD (fun _ _ _ h => runB_nil h) ?_)
  | ((with_reducible show Ev (eMCallK _ _ _ _ _ _) _ _); refine Ev_mcallK (fun _ _ _ h => runB_nil h) ?_)
  | ((with_reducible show Ev (eCallK _ _ _) _ _); refine Ev_callK (fun _ _ _ h => runB_nil h) ?_)
  | with_reducible refine Ev_make ?_
  | ((with_reducible show ∃ _, fldD "Endless" "wide" (endD _ _) = some _ ∧ _); refine ⟨_, end_wide, ?_⟩)
  | ((with_reducible show ∃ _, fldD "Endless" "rows" (endD _ _) = some _ ∧ _); refine ⟨_, end_rows, ?_⟩)
  | ((with_reducible show ∃ _, fldD "Endless" "sums" (endD _ _) = some _ ∧ _); refine ⟨_, end_sums, ?_⟩)
  | ((with_reducible show isIns _ _ (endD _ _) = true ∧ _); refine ⟨rfl, ?_⟩)
  | ((with_reducible show ∃ _, divmodD [D.int _, D.int _] = some _ ∧ _); refine ⟨_, divmod_ii (by omega) (by omega), ?_⟩)
  | ((with_reducible show ∃ _, lenD [mapL _ _] = some _ ∧ _); refine ⟨_, mapL_len, ?_⟩)
  | ((with_reducible show ∃ _, itemsD (mapL _ _) = some _ ∧ _); refine ⟨_, mapL_items, ?_⟩)
  | ((with_reducible show (if isNon (D.int _) = true then _ else _)); rw [if_neg (show ¬ (isNon (D.int _) = true) from Bool.false_ne_true)])
  | ((with_reducible show (if isNon D.non = true then _ else _)); rw [if_pos (show isNon D.non = true from rfl)])
  | ((with_reducible show (if (!isNon (D.int _)) = true then _ else _)); rw [if_pos (show (!isNon (D.int _)) = true from rfl)])
  | ((with_reducible show (if (!isNon D.non) = true then _ else _)); rw [if_neg (show ¬ ((!isNon D.non) = true) from Bool.false_ne_true)])
  | ((with_reducible show (if isNon (mapL _ _) = true then _ else _)); rw [if_neg (show ¬ (isNon (mapL _ _) = true) from Bool.false_ne_true)])
  | ((with_reducible show (if isNon (jD none) = true then _ else _)); rw [if_pos (show isNon (jD none) = true from rfl)])
  | ((with_reducible show (if isNon (jD (some _)) = true then _ else _)); rw [if_neg (show ¬ (isNon (jD (some _)) = true) from Bool.false_ne_true)])
  | ((with_reducible show (if (!isNon (jD none)) = true then _ else _)); rw [if_neg (show ¬ ((!isNon (jD none)) = true) from Bool.false_ne_true)])
  | ((with_reducible show (if (!isNon (jD (some _))) = true then _ else _)); rw [if_pos (show (!isNon (jD (some _))) = true from rfl)])
  | with_reducible refine Ev_methT ?_)
local macro_rules | `(tactic| walk_at "e1") => `(tactic| first
  | ((with_reducible show EvS (sTupO _ _) _ _ _ _ _); refine S_tupO ?_)
  | ((with_reducible show Ev eDNew _ _); refine Ev_dnew ?_)
  | ((with_reducible show Ev (eMCallI _ _ _ _ false _ _) _ _); refine Ev_mcallI rfl (Ev_recvN ?_))
  | ((with_reducible show Ev (eMCallI _ _ _ _ true _ _) _ _); refine Ev_mcallI rfl (Ev_recvL ?_))
  | ((with_reducible show ∃ os : List O, O.tup _ = O.tup os ∧ _ ∧ _ ∧ _); refine ⟨_, rfl, rfl, of_decide_eq_true rfl, ?_⟩; simp only [setAll, List.set_cons_zero, List.set_cons_succ])
  | ((with_reducible show isIns _ _ (chD _ _ _ _ _ _ _) = true ∧ _); refine ⟨rfl, ?_⟩))
local macro_rules | `(tactic| walk_at "e1") => `(tactic| first
  | ((with_reducible show ∃ _, fldD "Chain" "firsts" (chD _ _ _ _ _ _ _) = some _ ∧ _); refine ⟨_, ch_firsts, ?_⟩)
  | ((with_reducible show ∃ _, fldD "Chain" "entries" (chD _ _ _ _ _ _ _) = some _ ∧ _); refine ⟨_, ch_entries, ?_⟩)
  | ((with_reducible show ∃ _, fldD "Chain" "rows" (chD _ _ _ _ _ _ _) = some _ ∧ _); refine ⟨_, ch_rows, ?_⟩)
  | ((with_reducible show ∃ _, fldD "Chain" "sums" (chD _ _ _ _ _ _ _) = some _ ∧ _); refine ⟨_, ch_sums, ?_⟩)
  | ((with_reducible show ∃ _, fldD "Chain" "wide" (chD _ _ _ _ _ _ _) = some _ ∧ _); refine ⟨_, ch_wide, ?_⟩))
local macro_rules | `(tactic| walk_at "e1") => `(tactic| first
  | with_reducible refine X_lift ?_ | with_reducible refine X_seq ?_ | with_reducible refine X_if ?_ | with_reducible refine X_ret ?_ | with_reducible refine X_drop ?_ | with_reducible refine X_set ?_ | with_reducible refine X_asg ?_
  | with_reducible refine X_raise1 ?_ | with_reducible refine X_raise0 ?_ | with_reducible refine M_fz ?_ | with_reducible refine M_of ?_ | with_reducible refine M_tup2 ?_ | with_reducible refine M_call ?_ | with_reducible refine S_tryO ?_ | with_reducible refine X_tryO ?_ | with_reducible refine X_for ?_ | with_reducible refine Ev_ifO ?_
  | ((with_reducible show EvM (eMCallX _ _ _ _ false _ _) _ _ _); refine M_mcall rfl (M_call (Ev_recvN ?_)))
  | ((with_reducible show EvM (eMCallX _ _ _ _ true _ _) _ _ _); refine M_mcall rfl (M_call (Ev_recvL ?_))))
local macro_rules | `(tactic| walk_at "e1") => `(tactic| first
  | ((with_reducible show Ev (dIsX _ _ _ _) _ _); refine Ev_isX rfl rfl ?_)
  | ((with_reducible show Ev (dIsXs _ _ _ _) _ _); refine Ev_isXs rfl rfl ?_)
  | ((with_reducible show Ev (dExF _ _ _ _ _) _ _); refine Ev_exF rfl rfl rfl ?_))
theorem ix_any {ds : List D} {k : Int} {P : D → Prop} (h0 : 0 ≤ k) (h1 : k < ds.length) (h : ∀ d ∈ ds, P d) : ∃ d, ixD (.lst ds) (.int k) = some d ∧ P d := by
  obtain ⟨n, rfl⟩ := Int.eq_ofNat_of_zero_le h0
  have hn : n < ds.length := by omega
  exact ⟨ds[n], ix_lst (List.getElem?_eq_getElem hn), h _ (List.getElem_mem hn)⟩
/-! slots: 0 bag*, 1 own, 2 width, 3 way, 4 many, 5 number, 6 some, 7 at, 8 measure -/
/-! why a pin or a release is refused -/
end DL.Sh
set_option Elab.async false
set_option linter.all false
set_option maxRecDepth 100000
set_option maxHeartbeats 4000000
/-! what the defs of law_k12_entries_logs_tiers do, by the combinators (printed by gen.py) -/
namespace DL.W
open PySem PySem.Spec PyProof.Rows L2 DL.Sh
noncomputable section
/-- _law_whole(_law_thing); slots: 0 _law_thing -/
def b_law_whole : MS :=
  (sRet (purM (dAnd (dCall isaD (aCons (dVar 0) (aCons (dC (.ty "int")) aNil))) (dNot (dCall isaD (aCons (dVar 0) (aCons (dC (.ty "bool")) aNil)))))))
def f_law_whole : List O → Option (O × List O) := runB 1 [] b_law_whole
/-- turn 1 of b_law_vast -/
def b_law_vast_L1 : MS :=
  (sSet 1 (purM (fzM (eLst (eaCons (purM (dVar 1)) eaNil)))))
/-- _law_vast(_law_bag_here); slots: 0 _law_bag_here*, 1 _law_found, 2 _law_k -/
def b_law_vast : MS :=
  (sSeq (sIf (tOp2 eqD (fzM (eCall f_law_take [some 0] (eaCons (eMove 0) (eaCons (purM (dC (.int 2))) eaNil)))) (dC (.int 0)))
  (sRet (eOp2 mulL (dLst (aCons (fzM (eCall f_law_take [some 0] (eaCons (eMove 0) (eaCons (purM (dC (.int 2))) eaNil)))) aNil)) (dC (.int 4990))))
  sNext)
  (sSeq (sSet 1 (purM (fzM (eLst eaNil))))
  (sSeq (sFor (iArgsM rangeD1 (aCons (dC (.int 19)) aNil)) (fName 2)
  b_law_vast_L1)
  (sRet (purM (dVar 1))))))
def f_law_vast : List O → Option (O × List O) := runB 3 [0] b_law_vast
/-- _law_is_entry(_law_thing, _law_width); slots: 0 _law_thing, 1 _law_width, 2 _law_size_here -/
def b_law_is_entry : MS :=
  (sSeq (sIf (tOrM (tNotM (tValM (dCall isaD (aCons (dVar 0) (aCons (dC (.ty "tuple")) aNil))))) (tOp2 neD (dCall lenD (aCons (dVar 0) aNil)) (dVar 1)))
  (sRet (purM (dC (.bl false))))
  sNext)
  (sRet (purM (dCall allD (aCons (fzM (eComp [2] (iSeqM (dVar 0)) (fName 2) tYesM (purM (dAnd (fzM (eCall f_law_whole [] (eaCons (purM (dVar 2)) eaNil))) (dChain leD leD (dC (.int 0)) (dVar 2) (dOp2 powD (dC (.int 10)) (dC (.int 18)))))))) aNil)))))
def f_law_is_entry : List O → Option (O × List O) := runB 3 [] b_law_is_entry
/-- _law_is_tier(_law_thing, _law_width); slots: 0 _law_thing, 1 _law_width -/
def b_law_is_tier : MS :=
  (sSeq (sIf (tOrM (tNotM (tValM (dCall isaD (aCons (dVar 0) (aCons (dC (.ty "tuple")) aNil))))) (tOrM (tOp2 neD (dCall lenD (aCons (dVar 0) aNil)) (dC (.int 2))) (tOrM (tNotM (tValM (fzM (eCall f_law_whole [] (eaCons (purM (dOp2 ixD (dVar 0) (dC (.int 0)))) eaNil))))) (tNotM (tValM (fzM (eCall f_law_whole [] (eaCons (purM (dOp2 ixD (dVar 0) (dC (.int 1)))) eaNil))))))))
  (sRet (purM (dC (.bl false))))
  sNext)
  (sRet (purM (dAnd (dChain leD ltD (dC (.int 0)) (dOp2 ixD (dVar 0) (dC (.int 0))) (dVar 1)) (dChain leD leD (dC (.int 0)) (dOp2 ixD (dVar 0) (dC (.int 1))) (dOp2 powD (dC (.int 10)) (dC (.int 18))))))))
def f_law_is_tier : List O → Option (O × List O) := runB 2 [] b_law_is_tier
/-- _law_odd(_law_bag_here); slots: 0 _law_bag_here*, 1 _law_far, 2 _law_some -/
def b_law_odd : MS :=
  (sSeq (sSet 1 (purM (dOp2 powD (dC (.int 10)) (dC (.int 18)))))
  (sSeq (sSet 2 (purM (fzM (eLst (eaCons (purM (dC (.int 0))) (eaCons (purM (dC (.int 1))) (eaCons (purM (dOp1 negD (dC (.int 1)))) (eaCons (purM (dVar 1)) (eaCons (purM (dOp2 addD (dVar 1) (dC (.int 1)))) (eaCons (purM (dOp2 subD (dVar 1) (dC (.int 1)))) (eaCons (purM (dOp1 negD (dVar 1))) (eaCons (purM (dOp2 powD (dC (.int 10)) (dC (.int 39)))) (eaCons (purM (dOp1 negD (dOp2 powD (dC (.int 10)) (dC (.int 39))))) (eaCons (eCall f_law_take [some 0] (eaCons (eMove 0) (eaCons (purM (dC (.int 400))) eaNil))) (eaCons (purM (dC (.bl true))) (eaCons (purM (dC (.bl false))) (eaCons (purM (dC .non)) (eaCons (purM (dC (.str ""))) eaNil))))))))))))))))))
  (sSeq (sSet 2 (purM (fzM (eOp2 addL (dVar 2) (dLst (aCons (dC (.str "1")) (aCons (dTup aNil) (aCons (dTup (aCons (dC (.int 1)) aNil)) (aCons (dTup (aCons (dC (.int 1)) (aCons (dC (.int 2)) aNil))) (aCons (dLst (aCons (dC (.int 1)) aNil)) (aCons (dLst aNil) (aCons (fzM eDNew) (aCons (fzM (eDisp1 (dC (.int 1)) (purM (dC (.int 1))))) (aCons (dTup (aCons (dTup (aCons (dC (.int 1)) aNil)) aNil)) (aCons (dLst (aCons (dTup (aCons (dC (.int 1)) aNil)) aNil)) (aCons (dC (.str "tiers")) aNil))))))))))))))))
  (sRet (purM (dOp2 ixD (dVar 2) (fzM (eCall f_law_take [some 0] (eaCons (eMove 0) (eaCons (purM (dC (.int 25))) eaNil))))))))))
def f_law_odd : List O → Option (O × List O) := runB 3 [0] b_law_odd
/-- _law_is_log(_law_thing, _law_width); slots: 0 _law_thing, 1 _law_width, 2 _law_entry -/
def b_law_is_log : MS :=
  (sSeq (sIf (tOrM (tNotM (tValM (dCall isaD (aCons (dVar 0) (aCons (dC (.ty "list")) aNil))))) (tOp2 gtD (dCall lenD (aCons (dVar 0) aNil)) (dC (.int 400))))
  (sRet (purM (dC (.bl false))))
  sNext)
  (sRet (purM (dCall allD (aCons (fzM (eComp [2] (iSeqM (dVar 0)) (fName 2) tYesM (eCall f_law_is_entry [] (eaCons (purM (dVar 2)) (eaCons (purM (dVar 1)) eaNil))))) aNil)))))
def f_law_is_log : List O → Option (O × List O) := runB 3 [] b_law_is_log
/-- _law_are_tiers(_law_thing, _law_width); slots: 0 _law_thing, 1 _law_width, 2 _law_tier -/
def b_law_are_tiers : MS :=
  (sSeq (sIf (tOrM (tNotM (tValM (dCall isaD (aCons (dVar 0) (aCons (dC (.ty "list")) aNil))))) (tNotM (tChain leD leD (dC (.int 1)) (dCall lenD (aCons (dVar 0) aNil)) (dC (.int 8)))))
  (sRet (purM (dC (.bl false))))
  sNext)
  (sRet (purM (dCall allD (aCons (fzM (eComp [2] (iSeqM (dVar 0)) (fName 2) tYesM (eCall f_law_is_tier [] (eaCons (purM (dVar 2)) (eaCons (purM (dVar 1)) eaNil))))) aNil)))))
def f_law_are_tiers : List O → Option (O × List O) := runB 3 [] b_law_are_tiers
/-- _law_bent(_law_bag_here, _law_thing); slots: 0 _law_bag_here*, 1 _law_thing, 2 _law_way, 3 _law_parts, 4 _law_at -/
def b_law_bent : MS :=
  (sSeq (sSet 2 (purM (fzM (eCall f_law_take [some 0] (eaCons (eMove 0) (eaCons (purM (dC (.int 5))) eaNil))))))
  (sSeq (sSet 3 (purM (fzM (eArgs listL (aCons (dVar 1) aNil)))))
  (sSeq (sSet 4 (purM (fzM (eCall f_law_take [some 0] (eaCons (eMove 0) (eaCons (purM (dOp2 addD (dCall lenD (aCons (dVar 3) aNil)) (dC (.int 1)))) eaNil))))))
  (sSeq (sIf (tOp2 eqD (dVar 2) (dC (.int 0)))
  (sRet (purM (dIf (tValM (dCall isaD (aCons (dVar 1) (aCons (dC (.ty "tuple")) aNil)))) (dVar 3) (dCall tupleD (aCons (dVar 3) aNil)))))
  sNext)
  (sSeq (sIf (tOp2 eqD (dVar 2) (dC (.int 1)))
  (sSet 3 (purM (dOp2 addD (dSl (dVar 3) oNone (oSome (dVar 4))) (dSl (dVar 3) (oSome (dOp2 addD (dVar 4) (dC (.int 1)))) oNone))))
  (sIf (tOp2 eqD (dVar 2) (dC (.int 2)))
  (sSet 3 (purM (fzM (eOp2 addL (dOp2 addD (dSl (dVar 3) oNone (oSome (dVar 4))) (dLst (aCons (fzM (eCall f_law_odd [some 0] (eaCons (eMove 0) eaNil))) aNil))) (dSl (dVar 3) (oSome (dVar 4)) oNone)))))
  (sIf (tOp2 ltD (dVar 4) (dCall lenD (aCons (dVar 3) aNil)))
  (sSet 3 (purM (fzM (eOp2 addL (dOp2 addD (dSl (dVar 3) oNone (oSome (dVar 4))) (dLst (aCons (fzM (eCall f_law_odd [some 0] (eaCons (eMove 0) eaNil))) aNil))) (dSl (dVar 3) (oSome (dOp2 addD (dVar 4) (dC (.int 1)))) oNone)))))
  sNext)))
  (sRet (purM (dIf (tValM (dCall isaD (aCons (dVar 1) (aCons (dC (.ty "tuple")) aNil)))) (dCall tupleD (aCons (dVar 3) aNil)) (dVar 3)))))))))
def f_law_bent : List O → Option (O × List O) := runB 5 [0] b_law_bent
/-- _law_deep_bent(_law_bag_here, _law_thing); slots: 0 _law_bag_here*, 1 _law_thing, 2 _law_at -/
def b_law_deep_bent : MS :=
  (sSeq (sIf (tOrM (tOp2 eqD (dVar 1) (dLst aNil)) (tOp2 eqD (fzM (eCall f_law_take [some 0] (eaCons (eMove 0) (eaCons (purM (dC (.int 2))) eaNil)))) (dC (.int 0))))
  (sRet (eCall f_law_bent [some 0] (eaCons (eMove 0) (eaCons (purM (dVar 1)) eaNil))))
  sNext)
  (sSeq (sSet 2 (purM (fzM (eCall f_law_take [some 0] (eaCons (eMove 0) (eaCons (purM (dCall lenD (aCons (dVar 1) aNil))) eaNil))))))
  (sRet (eOp2 addL (dOp2 addD (dSl (dVar 1) oNone (oSome (dVar 2))) (dLst (aCons (fzM (eCall f_law_bent [some 0] (eaCons (eMove 0) (eaCons (purM (dOp2 ixD (dVar 1) (dVar 2))) eaNil)))) aNil))) (dSl (dVar 1) (oSome (dOp2 addD (dVar 2) (dC (.int 1)))) oNone)))))
def f_law_deep_bent : List O → Option (O × List O) := runB 3 [0] b_law_deep_bent
/-- turn 1 of b_law_things -/
def b_law_things_L1 : MS :=
  (sDrop (eMeth 6 opAppend (eaCons (purM (dTup (aCons (fzM (eCall f_law_take [some 0] (eaCons (eMove 0) (eaCons (purM (dVar 1)) eaNil)))) (aCons (fzM (eCall f_law_size [some 0] (eaLate 0 (eaCons (purM (fzM (eCall f_law_take [some 0] (eaCons (eMove 0) (eaCons (purM (dC (.int 5))) eaNil))))) eaNil)))) aNil)))) eaNil)))
/-- _law_things(_law_bag_here, _law_width); slots: 0 _law_bag_here*, 1 _law_width, 2 _law_entry, 3 _law_many, 4 _law_log, 5 _law_tier, 6 _law_tiers*, 7 _law_k, 8 _law_found, 9 _law_measure -/
def b_law_things : MS :=
  (sSeq (sSet 2 (purM (dCall tupleD (aCons (fzM (eComp [9] (iArgsM rangeD1 (aCons (dVar 1) aNil)) (fName 9) tYesM (eCall f_law_size [some 0] (eaLate 0 (eaCons (purM (fzM (eCall f_law_take [some 0] (eaCons (eMove 0) (eaCons (purM (dC (.int 5))) eaNil))))) eaNil))))) aNil))))
  (sSeq (sSet 3 (purM (dOp2 ixD (dLst (aCons (fzM (eCall f_law_take [some 0] (eaCons (eMove 0) (eaCons (purM (dC (.int 12))) eaNil)))) (aCons (dOp2 addD (dC (.int 398)) (fzM (eCall f_law_take [some 0] (eaCons (eMove 0) (eaCons (purM (dC (.int 5))) eaNil))))) aNil))) (dCall toIntD (aCons (dOp2 eqD (fzM (eCall f_law_take [some 0] (eaCons (eMove 0) (eaCons (purM (dC (.int 6))) eaNil)))) (dC (.int 0))) aNil)))))
  (sSeq (sSet 4 (purM (fzM (eOp2 mulL (dLst (aCons (dVar 2) aNil)) (dVar 3)))))
  (sSeq (sSet 5 (purM (dTup (aCons (fzM (eCall f_law_take [some 0] (eaCons (eMove 0) (eaCons (purM (dVar 1)) eaNil)))) (aCons (fzM (eCall f_law_size [some 0] (eaCons (eMove 0) (eaCons (purM (dC (.int 4))) eaNil)))) aNil)))))
  (sSeq (sSet 6 (eLst eaNil))
  (sSeq (sFor (iArgsM rangeD1 (aCons (dOp2 addD (dC (.int 1)) (fzM (eCall f_law_take [some 0] (eaCons (eMove 0) (eaCons (purM (dC (.int 9))) eaNil))))) aNil)) (fName 7)
  b_law_things_L1)
  (sSeq (sFrz 6 (sSet 8 (purM (fzM (eLst (eaCons (purM (dVar 2)) (eaCons (purM (dVar 4)) (eaCons (purM (dVar 5)) (eaCons (purM (dVar 6)) (eaCons (eCall f_law_odd [some 0] (eaCons (eMove 0) eaNil)) eaNil))))))))))
  (sSeq (sSet 8 (purM (fzM (eOp2 addL (dVar 8) (dLst (aCons (fzM (eCall f_law_bent [some 0] (eaCons (eMove 0) (eaCons (purM (dVar 2)) eaNil)))) (aCons (fzM (eCall f_law_deep_bent [some 0] (eaCons (eMove 0) (eaCons (purM (dVar 4)) eaNil)))) (aCons (fzM (eCall f_law_bent [some 0] (eaCons (eMove 0) (eaCons (purM (dVar 5)) eaNil)))) (aCons (fzM (eCall f_law_deep_bent [some 0] (eaCons (eMove 0) (eaCons (purM (dVar 6)) eaNil)))) aNil)))))))))
  (sRet (eOp2 addL (dVar 8) (dLst (aCons (dOp2 addD (dVar 6) (dVar 6)) (aCons (dLst aNil) (aCons (dTup (aCons (dVar 1) (aCons (dC (.int 0)) aNil))) (aCons (dLst (aCons (dTup (aCons (dOp2 subD (dVar 1) (dC (.int 1))) (aCons (dC (.int 0)) aNil))) aNil)) (aCons (fzM (eCall f_law_vast [some 0] (eaCons (eMove 0) eaNil))) aNil))))))))))))))))
def f_law_things : List O → Option (O × List O) := runB 10 [0] b_law_things
/-- is_log(thing, width); slots: 0 thing, 1 width -/
def b_is_log : MS :=
  (sRet (eCall f_are_entries [] (eaCons (purM (dVar 0)) (eaCons (purM (dVar 1)) (eaCons (purM (dC (.int 400))) eaNil)))))
def f_is_log : List O → Option (O × List O) := runB 2 [] b_is_log
/-- turn 1 of b_law -/
def b_law_L1 : MS :=
  (sSeq (sSet 8 (purM (fzM (eLst (eaCons (eCall f_is_entry [] (eaCons (purM (dVar 7)) (eaCons (purM (dVar 5)) eaNil))) (eaCons (eCall f_is_log [] (eaCons (purM (dVar 7)) (eaCons (purM (dVar 5)) eaNil))) (eaCons (eCall f_is_tier [] (eaCons (purM (dVar 7)) (eaCons (purM (dVar 5)) eaNil))) (eaCons (eCall f_are_tiers [] (eaCons (purM (dVar 7)) (eaCons (purM (dVar 5)) eaNil))) eaNil))))))))
  (sSeq (sSet 9 (purM (fzM (eLst (eaCons (eCall f_law_is_entry [] (eaCons (purM (dVar 7)) (eaCons (purM (dVar 5)) eaNil))) (eaCons (eCall f_law_is_log [] (eaCons (purM (dVar 7)) (eaCons (purM (dVar 5)) eaNil))) eaNil))))))
  (sSeq (sSet 9 (purM (fzM (eOp2 addL (dVar 9) (dLst (aCons (fzM (eCall f_law_is_tier [] (eaCons (purM (dVar 7)) (eaCons (purM (dVar 5)) eaNil)))) (aCons (fzM (eCall f_law_are_tiers [] (eaCons (purM (dVar 7)) (eaCons (purM (dVar 5)) eaNil)))) aNil)))))))
  (sIf (tNotM (tValM (fzM (eCall f_law_alike [] (eaCons (purM (dVar 8)) (eaCons (purM (dVar 9)) eaNil))))))
  (sRet (purM (dC (.bl false))))
  sNext))))
/-- turn 2 of b_law -/
def b_law_L2 : MS :=
  (sSeq (sSet 3 (purM (dOp2 addD (dC (.int 1)) (fzM (eCall f_law_take [some 1] (eaCons (eMove 1) (eaCons (purM (dC (.int 4))) eaNil)))))))
  (sSeq (sSet 4 (purM (fzM (eCall f_law_things [some 1] (eaCons (eMove 1) (eaCons (purM (dVar 3)) eaNil))))))
  (sSeq (sSet 5 (purM (dOp2 ixD (dLst (aCons (dVar 3) (aCons (dVar 3) (aCons (dOp2 addD (dC (.int 1)) (fzM (eCall f_law_take [some 1] (eaCons (eMove 1) (eaCons (purM (dC (.int 4))) eaNil))))) aNil)))) (fzM (eCall f_law_take [some 1] (eaCons (eMove 1) (eaCons (purM (dC (.int 3))) eaNil)))))))
  (sSeq (sSet 6 (purM (dCall reprXD (aCons (dVar 4) aNil))))
  (sSeq (sFor (iSeqM (dVar 4)) (fName 7)
  b_law_L1)
  (sIf (tOp2 neD (dCall reprXD (aCons (dVar 4) aNil)) (dVar 6))
  (sRet (purM (dC (.bl false))))
  sNext))))))
/-- law(_law_script); slots: 0 _law_script, 1 _law_bag_here*, 2 _law_turn, 3 _law_width, 4 _law_things_here, 5 _law_asked, 6 _law_kept, 7 _law_thing, 8 _law_found, 9 _law_due -/
def b_law : MS :=
  (sSeq (sSet 1 (eCall f_law_bag [] (eaCons (purM (dVar 0)) eaNil)))
  (sSeq (sFor (iArgsM rangeD1 (aCons (dC (.int 3)) aNil)) (fName 2)
  b_law_L2)
  (sRet (purM (dC (.bl true))))))
def f_law : List O → Option (O × List O) := runB 10 [] b_law
end
end DL.W
set_option Elab.async false
set_option linter.all false
set_option maxRecDepth 100000
set_option pp.maxSteps 1500
set_option maxHeartbeats 4000000
/-! the mathematics of law_k12_entries_logs_tiers -/
namespace DL.W
open PySem PySem.Spec PyProof.Rows L2 DL.Sh
/-- one step backwards -/
local macro_rules | `(tactic| walk_at "e1") => `(tactic| first
  | with_reducible refine S_next ?_ | with_reducible refine S_ret ?_ | with_reducible refine S_drop ?_ | with_reducible refine S_if ?_ | with_reducible refine S_for ?_
  | with_reducible refine Ev_C ?_ | with_reducible refine Ev_fz ?_ | with_reducible refine Ev_pur ?_ | with_reducible refine Ev_op2 ?_ | with_reducible refine Ev_top2 ?_ | with_reducible refine Ev_op1 ?_ | with_reducible refine Ev_val ?_
  | with_reducible refine Ev_tand ?_ | with_reducible refine Ev_tor ?_ | with_reducible refine Ev_tnot ?_ | with_reducible refine Ev_and ?_ | with_reducible refine Ev_or ?_ | with_reducible refine Ev_not ?_ | with_reducible refine Ev_if ?_
  | with_reducible refine Ev_anil ?_ | with_reducible refine Ev_acons ?_ | with_reducible refine Ev_eanil ?_ | with_reducible refine Ev_eacons ?_ | with_reducible refine Ev_call ?_ | with_reducible refine Ev_onone ?_ | with_reducible refine Ev_osome ?_
  | with_reducible refine Ev_sl ?_ | with_reducible refine Ev_esl ?_ | with_reducible refine Ev_eop2 ?_ | with_reducible refine Ev_eargs ?_ | with_reducible refine Ev_iseq ?_ | with_reducible refine Ev_iargs ?_ | with_reducible refine Ev_yes ?_
  | with_reducible refine Ev_chain ?_ | with_reducible refine Ev_tchain ?_
  | (with_reducible refine Ev_tbor ?_; simp only [frzE, Option.map_some, Option.map_none, O.fz, fzs, fzs_ints, fzs_purs])
  | (with_reducible refine Ev_bor ?_; simp only [frzE, Option.map_some, Option.map_none, O.fz, fzs, fzs_ints, fzs_purs])
  | ((with_reducible show (if (!true) = true then _ else _)); rw [if_neg (by decide)]) | ((with_reducible show (if (!false) = true then _ else _)); rw [if_pos (by decide)])
  | with_reducible refine Ev_call1 ?_ | ((with_reducible show (if true = true then _ else _)); rw [if_pos rfl]) | ((with_reducible show (if false = true then _ else _)); rw [if_neg Bool.false_ne_true])
  | ((with_reducible show Ev (dVar _) _ _); refine Ev_var rfl ?_)
  | ((with_reducible show Ev (eMove _) _ _); refine Ev_move rfl ?_; (try simp only [List.set_cons_zero, List.set_cons_succ]))
  | ((with_reducible refine S_set ?_))
  | (with_reducible refine S_asg ?_)
  | ((with_reducible refine Ev_tup ?_)) | ((with_reducible refine Ev_lst ?_)) | ((with_reducible refine Ev_elst ?_)) | ((with_reducible refine Ev_etup ?_))
  | ((with_reducible show ∃ _, powD _ _ = some _ ∧ _); refine ⟨_, pow18, ?_⟩) | ((with_reducible show ∃ _, powD _ _ = some _ ∧ _); refine ⟨_, rfl, ?_⟩; simp only [Int.reduceToNat, Int.reducePow]) | ((with_reducible show ∃ _, addD _ _ = some _ ∧ _); refine ⟨_, add_ii _ _, ?_⟩) | ((with_reducible show ∃ _, eqD _ _ = some _ ∧ _); refine ⟨_, eq_dec _ _, ?_⟩) | ((with_reducible show ∃ _, neD _ _ = some _ ∧ _); refine ⟨_, ne_dec _ _, ?_⟩) | ((with_reducible show ∃ _, ltD _ _ = some _ ∧ _); refine ⟨_, lt_dec _ _, ?_⟩) | ((with_reducible show ∃ _, leD _ _ = some _ ∧ _); refine ⟨_, le_dec _ _, ?_⟩) | ((with_reducible show ∃ _, gtD _ _ = some _ ∧ _); refine ⟨_, gt_dec _ _, ?_⟩) | ((with_reducible show ∃ _, geD _ _ = some _ ∧ _); refine ⟨_, ge_dec _ _, ?_⟩) | ((with_reducible show ∃ _, subD _ _ = some _ ∧ _); refine ⟨_, sub_ii _ _, ?_⟩) | ((with_reducible show ∃ _, negD _ = some _ ∧ _); refine ⟨_, neg_i _, ?_⟩)
  | ((with_reducible show ∃ _, mulD _ _ = some _ ∧ _); refine ⟨_, mul_ii (by omega), ?_⟩) | ((with_reducible show ∃ _, modD _ _ = some _ ∧ _); refine ⟨_, mod_ii (by omega), ?_⟩) | ((with_reducible show ∃ _, divD _ _ = some _ ∧ _); refine ⟨_, div_ii (by omega) (by omega), ?_⟩)
  | ((with_reducible show ∃ _, mixE _ _ _ = some _ ∧ _); refine ⟨_, mix_nil rfl, ?_⟩)
  | ((with_reducible show _ < List.length _ ∧ _); refine ⟨of_decide_eq_true rfl, ?_⟩; (try simp only [List.set_cons_zero, List.set_cons_succ, O.fz, fzs_ints, fzs_purs, keepE_cons, keepE_nil, wipeE]))
  | ((with_reducible show (_ < List.length _ ∧ _) ∧ _); refine ⟨of_decide_eq_true rfl, ?_⟩; (try simp only [List.set_cons_zero, List.set_cons_succ, O.fz, fzs_ints, fzs_purs, keepE_cons, keepE_nil, wipeE]))
  | ((with_reducible show List.length _ ≤ 1000 ∧ _); refine ⟨of_decide_eq_true rfl, ?_⟩; (try simp only [List.set_cons_zero, List.set_cons_succ, O.fz, fzs_ints, fzs_purs, keepE_cons, keepE_nil, wipeE]))
  | ((with_reducible show flatO _ = true ∧ _); refine ⟨rfl, ?_⟩)
  | ((with_reducible show Ev (eaLate _ _) _ _); refine Ev_late rfl ?_)
  | with_reducible refine S_setIx ?_
  | ((with_reducible show EvS (sAugIx _ _ _ _) _ _ _ _ _); refine S_augIx rfl ?_)
  | ((with_reducible show EvS (sAug _ _ _) _ _ _ _ _); refine S_aug rfl ?_)
  | ((with_reducible show ∃ a b c, _ = D.int a ∧ _ ∧ _ ∧ _); refine ⟨_, _, _, rfl, rfl, rfl, ?_⟩; simp only [List.set_cons_zero, List.set_cons_succ, Int.toNat_ofNat, Int.reduceToNat])
  | ((with_reducible show ∃ a b c, _ = D.int a ∧ _ ∧ _ ∧ _); refine ⟨_, _, _, rfl, rfl, rfl, ?_⟩)
  | ((with_reducible show ∃ _, ixD _ _ = some _ ∧ _); refine ⟨_, rfl, ?_⟩)
  | ((with_reducible show ∃ _, lenD _ = some _ ∧ _); refine ⟨_, rfl, ?_⟩)
  | ((with_reducible show ∃ _, absD _ = some _ ∧ _); refine ⟨_, rfl, ?_⟩)
  | ((with_reducible show ∃ _, itemsD _ = some _ ∧ _); refine ⟨_, rfl, ?_⟩)
  | ((with_reducible show ∃ _, tupleD _ = some _ ∧ _); refine ⟨_, rfl, ?_⟩)
  | ((with_reducible show ∃ _, listD _ = some _ ∧ _); refine ⟨_, rfl, ?_⟩)
  | ((with_reducible show ∃ _, listL _ = some _ ∧ _); refine ⟨_, rfl, ?_⟩)
  | ((with_reducible show ∃ _, toIntD _ = some _ ∧ _); refine ⟨_, rfl, ?_⟩)
  | ((with_reducible show ∃ _, isD _ _ = some _ ∧ _); refine ⟨_, rfl, ?_⟩)
  | ((with_reducible show ∃ _, isNotD _ _ = some _ ∧ _); refine ⟨_, rfl, ?_⟩)
  | ((with_reducible show ∃ _, takeS _ _ = some _ ∧ _); refine ⟨_, rfl, ?_⟩)
  | ((with_reducible show ∃ _, fName _ _ _ = some _ ∧ _); refine ⟨_, rfl, ?_⟩; (try simp only [List.set_cons_zero, List.set_cons_succ]))
  | ((with_reducible show ∃ _, fTup _ _ _ _ = some _ ∧ _); refine ⟨_, rfl, ?_⟩; (try simp only [List.set_cons_zero, List.set_cons_succ]))
  | ((with_reducible show ∃ _, slD _ _ _ = some _ ∧ _); refine ⟨_, rfl, ?_⟩)
  | ((with_reducible show ∃ _, slL _ _ _ = some _ ∧ _); refine ⟨_, rfl, ?_⟩)
  | ((with_reducible show ∃ _, List.set _ _ _ = some _ ∧ _); refine ⟨_, rfl, ?_⟩)
  | ((with_reducible show ∃ _, getElem? _ _ = some _ ∧ _); refine ⟨_, rfl, ?_⟩)
  | ((with_reducible show ∃ _, rangeD1 [D.int (Nat.cast _)] = some _ ∧ _); refine ⟨_, range_nat (by omega), ?_⟩) | ((with_reducible show ∃ _, rangeD1 _ = some _ ∧ _); refine ⟨_, range_lit (by omega) (by omega), ?_⟩)
  | ((with_reducible show ∃ _, _ = D.int _ ∧ _); refine ⟨_, rfl, ?_⟩)
  | ((with_reducible show ∃ _, maxD [D.int _, D.int _] = some _ ∧ _); refine ⟨_, rfl, ?_⟩) | ((with_reducible show ∃ _, minD [D.int _, D.int _] = some _ ∧ _); refine ⟨_, rfl, ?_⟩)
  | ((with_reducible show ∃ _, truD _ = some _ ∧ _); refine ⟨_, rfl, ?_⟩)
  | ((with_reducible show ∃ _, _ = D.bl _ ∧ _); refine ⟨_, rfl, ?_⟩)
  | ((with_reducible show ∃ _, neD (.str _) (.str _) = some _ ∧ _); refine ⟨_, ne_str _, ?_⟩) | ((with_reducible show ∃ _, eqD (.str _) (.str _) = some _ ∧ _); refine ⟨_, eq_str _, ?_⟩))
local macro_rules | `(tactic| walk_at "e") => `(tactic| repeat walk_at "e1")
local macro_rules | `(tactic| walk_at "s") => `(tactic| repeat (first | with_reducible refine S_seq ?_ | walk_at "e1"))
local macro_rules | `(tactic| walk_at "n") => `(tactic| try simp only [List.set_cons_zero, List.set_cons_succ, O.fz, fzs_ints, fzs_purs, keepE_cons, keepE_nil, wipeE])
local macro_rules | `(tactic| walk_at "e1") => `(tactic| ((with_reducible show Ev (eCall f_law_take _ _) _ _); refine Ev_take rfl (by assumption) ?_; (try simp only [List.set_cons_zero, List.set_cons_succ])))
local macro_rules | `(tactic| walk_at "e1") => `(tactic| ((with_reducible show ∀ _ _, _ → _ → BagOk _ → _); intro r o' h1 h2 hb; (try simp only [List.set_cons_zero, List.set_cons_succ, O.fz])))
local macro_rules | `(tactic| walk_at "e1") => `(tactic| ((with_reducible show _ < _ ∧ _); refine ⟨by omega, ?_⟩))
local macro_rules | `(tactic| walk_at "e1") => `(tactic| ((with_reducible show Ev (eCall f_law_size _ _) _ _); refine Ev_size rfl (by assumption) ?_; (try simp only [List.set_cons_zero, List.set_cons_succ])))
local macro_rules | `(tactic| walk_at "e1") => `(tactic| ((with_reducible show ∃ _, lenD [D.lst (rowsD _)] = some _ ∧ _); refine ⟨_, rfl, ?_⟩; rw [rowsD_len]))
local macro_rules | `(tactic| walk_at "e1") => `(tactic| ((with_reducible show ∃ _, isaD _ = some _ ∧ _); refine ⟨_, rfl, ?_⟩))
local macro_rules | `(tactic| walk_at "e1") => `(tactic| ((with_reducible show ∃ _, rangeD1 [D.int (_ + 1)] = some _ ∧ _); refine ⟨_, range_succ' (by omega), ?_⟩))
local macro_rules | `(tactic| walk_at "e1") => `(tactic| ((with_reducible show ∃ _, rangeD1 [D.int (1 + _)] = some _ ∧ _); refine ⟨_, range_one_add (by omega) (by omega), ?_⟩))
local macro_rules | `(tactic| walk_at "e1") => `(tactic| ((with_reducible show EvS (sFrz _ _) _ _ _ _ _); refine S_frz rfl ?_; (try simp only [List.set_cons_zero, List.set_cons_succ, O.fz, fzs, fzs_ints, fzs_purs])))
local macro_rules | `(tactic| walk_at "e1") => `(tactic| first | with_reducible refine S_par2 ?_ | with_reducible refine S_par3 ?_)
local macro_rules | `(tactic| walk_at "e1") => `(tactic| ((with_reducible show ∃ o1 o2 : O, _ = [o1, o2] ∧ _); refine ⟨_, _, rfl, ?_⟩))
local macro_rules | `(tactic| walk_at "e1") => `(tactic| ((with_reducible show ∃ o1 o2 o3 : O, _ = [o1, o2, o3] ∧ _); refine ⟨_, _, _, rfl, ?_⟩))
local macro_rules | `(tactic| walk_at "e1") => `(tactic| ((with_reducible show (_ < List.length _ ∧ _ < List.length _ ∧ _ < List.length _) ∧ _); refine ⟨of_decide_eq_true rfl, ?_⟩; (try simp only [List.set_cons_zero, List.set_cons_succ, O.fz, fzs_ints, fzs_purs, keepE_cons, keepE_nil, wipeE])))
local macro_rules | `(tactic| walk_at "e1") => `(tactic| first
  | ((with_reducible show Ev (eMCallD _ _ _ _ _) _ _); refine Ev_mcallD (fun _ _ _ h => runB_nil h) ?_)
  | ((with_reducible show Ev (eMCallK _ _ _ _ _ _) _ _); refine Ev_mcallK (fun _ _ _ h => runB_nil h) ?_)
  | ((with_reducible show Ev (eCallK _ _ _) _ _); refine Ev_callK (fun _ _ _ h => runB_nil h) ?_)
  | with_reducible refine Ev_make ?_
  | ((with_reducible show ∃ _, fldD "Endless" "wide" (endD _ _) = some _ ∧ _); refine ⟨_, end_wide, ?_⟩)
  | ((with_reducible show ∃ _, fldD "Endless" "rows" (endD _ _) = some _ ∧ _); refine ⟨_, end_rows, ?_⟩)
  | ((with_reducible show ∃ _, fldD "Endless" "sums" (endD _ _) = some _ ∧ _); refine ⟨_, end_sums, ?_⟩)
  | ((with_reducible show isIns _ _ (endD _ _) = true ∧ _); refine ⟨rfl, ?_⟩)
  | ((with_reducible show ∃ _, divmodD [D.int _, D.int _] = some _ ∧ _); refine ⟨_, divmod_ii (by omega) (by omega), ?_⟩)
  | ((with_reducible show ∃ _, lenD [mapL _ _] = some _ ∧ _); refine ⟨_, mapL_len, ?_⟩)
  | ((with_reducible show ∃ _, itemsD (mapL _ _) = some _ ∧ _); refine ⟨_, mapL_items, ?_⟩)
  | ((with_reducible show (if isNon (D.int _) = true then _ else _)); rw [if_neg (show ¬ (isNon (D.int _) = true) from Bool.false_ne_true)])
  | ((with_reducible show (if isNon D.non = true then _ else _)); rw [if_pos (show isNon D.non = true from rfl)])
  | ((with_reducible show (if (!isNon (D.int _)) = true then _ else _)); rw [if_pos (show (!isNon (D.int _)) = true from rfl)])
  | ((with_reducible show (if (!isNon D.non) = true then _ else _)); rw [if_neg (show ¬ ((!isNon D.non) = true) from Bool.false_ne_true)])
  | ((with_reducible show (if isNon (mapL _ _) = true then _ else _)); rw [if_neg (show ¬ (isNon (mapL _ _) = true) from Bool.false_ne_true)])
  | ((with_reducible show (if isNon (jD none) = true then _ else _)); rw [if_pos (show isNon (jD none) = true from rfl)])
  | ((with_reducible show (if isNon (jD (some _)) = true then _ else _)); rw [if_neg (show ¬ (isNon (jD (some _)) = true) from Bool.false_ne_true)])
  | ((with_reducible show (if (!isNon (jD none)) = true then _ else _)); rw [if_neg (show ¬ ((!isNon (jD none)) = true) from Bool.false_ne_true)])
  | ((with_reducible show (if (!isNon (jD (some _))) = true then _ else _)); rw [if_pos (show (!isNon (jD (some _))) = true from rfl)])
  | with_reducible refine Ev_methT ?_)
local macro_rules | `(tactic| walk_at "e1") => `(tactic| first
  | ((with_reducible show EvS (sTupO _ _) _ _ _ _ _); refine S_tupO ?_)
  | ((with_reducible show Ev eDNew _ _); refine Ev_dnew ?_)
  | ((with_reducible show Ev (eMCallI _ _ _ _ false _ _) _ _); refine Ev_mcallI rfl (Ev_recvN ?_))
  | ((with_reducible show Ev (eMCallI _ _ _ _ true _ _) _ _); refine Ev_mcallI rfl (Ev_recvL ?_))
  | ((with_reducible show ∃ os : List O, O.tup _ = O.tup os ∧ _ ∧ _ ∧ _); refine ⟨_, rfl, rfl, of_decide_eq_true rfl, ?_⟩; simp only [setAll, List.set_cons_zero, List.set_cons_succ])
  | ((with_reducible show isIns _ _ (chD _ _ _ _ _ _ _) = true ∧ _); refine ⟨rfl, ?_⟩))
local macro_rules | `(tactic| walk_at "e1") => `(tactic| first
  | ((with_reducible show ∃ _, fldD "Chain" "firsts" (chD _ _ _ _ _ _ _) = some _ ∧ _); refine ⟨_, ch_firsts, ?_⟩)
  | ((with_reducible show ∃ _, fldD "Chain" "entries" (chD _ _ _ _ _ _ _) = some _ ∧ _); refine ⟨_, ch_entries, ?_⟩)
  | ((with_reducible show ∃ _, fldD "Chain" "rows" (chD _ _ _ _ _ _ _) = some _ ∧ _); refine ⟨_, ch_rows, ?_⟩)
  | ((with_reducible show ∃ _, fldD "Chain" "sums" (chD _ _ _ _ _ _ _) = some _ ∧ _); refine ⟨_, ch_sums, ?_⟩)
  | ((with_reducible show ∃ _, fldD "Chain" "wide" (chD _ _ _ _ _ _ _) = some _ ∧ _); refine ⟨_, ch_wide, ?_⟩))
local macro_rules | `(tactic| walk_at "e1") => `(tactic| first
  | with_reducible refine X_lift ?_ | with_reducible refine X_seq ?_ | with_reducible refine X_if ?_ | with_reducible refine X_ret ?_ | with_reducible refine X_drop ?_ | with_reducible refine X_set ?_ | with_reducible refine X_asg ?_
  | with_reducible refine X_raise1 ?_ | with_reducible refine X_raise0 ?_ | with_reducible refine M_fz ?_ | with_reducible refine M_of ?_ | with_reducible refine M_tup2 ?_ | with_reducible refine M_call ?_ | with_reducible refine S_tryO ?_ | with_reducible refine X_tryO ?_ | with_reducible refine X_for ?_ | with_reducible refine Ev_ifO ?_
  | ((with_reducible show EvM (eMCallX _ _ _ _ false _ _) _ _ _); refine M_mcall rfl (M_call (Ev_recvN ?_)))
  | ((with_reducible show EvM (eMCallX _ _ _ _ true _ _) _ _ _); refine M_mcall rfl (M_call (Ev_recvL ?_))))
local macro_rules | `(tactic| walk_at "e1") => `(tactic| first
  | ((with_reducible show Ev (dIsX _ _ _ _) _ _); refine Ev_isX rfl rfl ?_)
  | ((with_reducible show Ev (dIsXs _ _ _ _) _ _); refine Ev_isXs rfl rfl ?_)
  | ((with_reducible show Ev (dExF _ _ _ _ _) _ _); refine Ev_exF rfl rfl rfl ?_))
def isI : D → Bool
  | .int _ => true
  | _ => false
def inR (a b : Int) : D → Bool
  | .int i => decide (a ≤ i ∧ i ≤ b)
  | _ => false
theorem integer_spec {d : D} (h : (tyOf d).isSome = true) : Ex f_is_integer [.pur d] fun r _ => r = .pur (.bl (isI d)) := by
  refine Ex_run ?_
  show EvS _ [_] _ _ _ _
  unfold b_is_integer
  cases d <;> first | (cases h; done) | skip
  all_goals
    walk_at "s"
    first | rfl | trivial
theorem whole_spec {d : D} (h : (tyOf d).isSome = true) : Ex f_law_whole [.pur d] fun r _ => r = .pur (.bl (isI d)) := by
  refine Ex_run ?_
  show EvS _ [_] _ _ _ _
  unfold b_law_whole
  cases d <;> first | (cases h; done) | skip
  all_goals
    walk_at "s"
    first | rfl | trivial
theorem betweenX_spec {d : D} {a b : Int} (h : (tyOf d).isSome = true) : Ex f_is_between [.pur d, .pur (.int a), .pur (.int b)] fun r _ => r = .pur (.bl (inR a b d)) := by
  refine Ex_run ?_
  show EvS _ [_, _, _] _ _ _ _
  unfold b_is_between
  walk_at "s"
  refine (integer_spec h).mono ?_
  rintro _ _ rfl
  by_cases hi : ∃ i, d = .int i
  · obtain ⟨i, rfl⟩ := hi
    walk_at "s"
    rw [if_pos (show isI (D.int i) = true from rfl)]
    walk_at "e"
    by_cases h1 : a ≤ i
    · rw [decide_eq_true h1]
      walk_at "e"
      by_cases h2 : i ≤ b
      · rw [decide_eq_true h2]
        show _ = O.pur (.bl (decide (a ≤ i ∧ i ≤ b)))
        rw [decide_eq_true ⟨h1, h2⟩]
      · rw [decide_eq_false h2]
        show _ = O.pur (.bl (decide (a ≤ i ∧ i ≤ b)))
        rw [decide_eq_false fun q => h2 q.2]
    · rw [decide_eq_false h1]
      walk_at "e"
      show _ = O.pur (.bl (decide (a ≤ i ∧ i ≤ b)))
      rw [decide_eq_false fun q => h1 q.1]
  · have e : isI d = false := by cases d <;> first | rfl | exact absurd ⟨_, rfl⟩ hi
    have e2 : inR a b d = false := by cases d <;> first | rfl | exact absurd ⟨_, rfl⟩ hi
    rw [e, e2]
    walk_at "s"
    first | rfl | trivial
theorem sizeX_spec {d : D} (h : (tyOf d).isSome = true) : Ex f_is_size [.pur d] fun r _ => r = .pur (.bl (inR 0 (10 ^ 18) d)) := by
  refine Ex_run ?_
  show EvS _ [_] _ _ _ _
  unfold b_is_size
  walk_at "s"
  refine (betweenX_spec h).mono ?_
  rintro _ _ rfl
  first | rfl | exact ⟨_, rfl, rfl⟩ | trace_state
theorem Ev_disp1 {ρ : Env} {fk : M D} {fv : M O} {P : O → Env → Prop} (h : Ev fk ρ fun d ρ1 => Ev fv ρ1 fun o ρ2 => ∃ k, keyD d = some k ∧ P (.dct [(k, o)]) ρ2) : Ev (eDisp1 fk fv) ρ P :=
  Ev_bnd (h.mono fun _ _ h2 => Ev_bnd (h2.mono fun _ _ ⟨k, e, p⟩ => ⟨_, _, by unfold opt; rw [e]; rfl, p⟩))
def Odd (d : D) : Prop := (tyOf d).isSome = true ∧ NiceX 4 1000 d
theorem odd_int {i : Int} (h : i.natAbs < 10 ^ 250) : Odd (.int i) := ⟨rfl, (Nice.int h).x.mono (by omega) (by omega)⟩
theorem odd_spec {b : O} (hb : BagOk b) : Ex f_law_odd [b] fun r outs => ∃ d b', r = .pur d ∧ outs = [b'] ∧ BagOk b' ∧ Odd d := by
  refine Ex_run ?_
  show EvS _ [_, _, _] _ _ _ _
  unfold b_law_odd
  refine S_seq ?_
  walk_at "e"
  refine S_seq ?_
  walk_at "e"
  simp only [fzs, O.fz]
  rename_i r0 b1 g1 g2 hb1
  refine S_seq ?_
  walk_at "e"
  refine Ev_disp1 ?_
  walk_at "e"
  refine ⟨_, rfl, ?_⟩
  walk_at "e"
  simp only [fzK, O.fz]
  refine ⟨_, add_lst (show 14 + 11 ≤ 16777216 by omega), ?_⟩
  refine ⟨of_decide_eq_true rfl, ?_⟩
  rw [plO_fz]
  walk_at "n"
  walk_at "s"
  rename_i k b2 g3 g4 hb2
  obtain ⟨d, hd, ho⟩ := ix_any (ds := [D.int 0, D.int 1, D.int (-1), D.int 1000000000000000000, D.int (1000000000000000000 + 1), D.int (1000000000000000000 - 1), D.int (-1000000000000000000), D.int 1000000000000000000000000000000000000000, D.int (-1000000000000000000000000000000000000000), D.int r0, D.bl true, D.bl false, D.non, D.str ""] ++ [D.str "1", D.tup [], D.tup [D.int 1], D.tup [D.int 1, D.int 2], D.lst [D.int 1], D.lst [], D.dct [], D.dct [(Sum.inl 1, D.int 1)], D.tup [D.tup [D.int 1]], D.lst [D.tup [D.int 1]], D.str "tiers"]) (P := Odd) g3 g4 (by
    intro d hd
    rcases List.mem_append.mp hd with hd | hd
    · simp only [List.mem_cons, List.not_mem_nil, or_false] at hd
      rcases hd with rfl | rfl | rfl | rfl | rfl | rfl | rfl | rfl | rfl | rfl | rfl | rfl | rfl | rfl
      all_goals first | exact odd_int (Nat.lt_of_le_of_lt (show _ ≤ 10 ^ 40 by omega) (by decide +kernel)) | exact ⟨rfl, by decide +kernel, by decide +kernel, by decide +kernel⟩
    · simp only [List.mem_cons, List.not_mem_nil, or_false] at hd
      rcases hd with rfl | rfl | rfl | rfl | rfl | rfl | rfl | rfl | rfl | rfl | rfl
      all_goals exact ⟨rfl, by decide +kernel, by decide +kernel, by decide +kernel⟩)
  refine ⟨_, hd, ?_⟩
  walk_at "e"
  exact ⟨d, b2, rfl, rfl, hb2, ho⟩
theorem ty_ok {d : D} (h : okX d = true) : (tyOf d).isSome = true := by
  cases d <;> first | rfl | simp [okX] at h
theorem okXs_mem : ∀ {ds : List D} {d : D}, okXs ds = true → d ∈ ds → okX d = true
  | e :: ds, d, h, hm => by
    simp only [okXs, Bool.and_eq_true] at h
    rcases List.mem_cons.mp hm with rfl | hm
    · exact h.1
    · exact okXs_mem h.2 hm
def entB (w : Nat) : D → Bool
  | .tup ds => decide (ds.length = w) && ds.all (inR 0 (10 ^ 18))
  | _ => false
def logB (w : Nat) : D → Bool
  | .lst ds => decide (ds.length ≤ 400) && ds.all (entB w)
  | _ => false
def tierB (w : Nat) : D → Bool
  | .tup [a, b] => inR 0 (w - 1 : Int) a && inR 0 (10 ^ 18) b
  | _ => false
def tiersB (w : Nat) : D → Bool
  | .lst ds => decide (1 ≤ ds.length ∧ ds.length ≤ 8) && ds.all (tierB w)
  | _ => false
theorem comp_ds {ds : List D} {W : Env → Env} {tg : TF} {el : M O} {ρw : Env} {Q : List O → Env → Prop} (g : D → O)
    (hs : ∀ x ∈ ds, ∃ ρ2, tg x (ρw) = some ρ2 ∧ Ev el ρ2 fun o ρ3 => o = g x ∧ W ρ3 = ρw)
    (hd : Q (ds.map g) (ρw)) (hn : ds.length ≤ 16777216) :
    ds.length ≤ 16777216 ∧ ∃ I : Nat → List O → Env → Prop, I 0 [] (ρw) ∧
    (∀ i d acc ρ, ds[i]? = some d → acc.length ≤ i → I i acc ρ → ∃ ρ1, tg d ρ = some ρ1 ∧ Ev tYesM ρ1 fun b ρ2 => if b = true then Ev el ρ2 fun o ρ3 => I (i + 1) (acc ++ [o]) (W ρ3) else I (i + 1) acc (W ρ2)) ∧
    ∀ os ρ2, I ds.length os ρ2 → Q os ρ2 := by
  have := comp_lmap (xs := ds) (f := fun d => d) (W := W) (tg := tg) (el := el) (ρw := ρw) (Q := Q) g hs hd hn
  rwa [List.map_id'] at this
theorem all_ds {ds : List D} (p : D → Bool) : allD [(O.lst (ds.map fun x => O.pur (.bl (p x)))).fz] = some (.bl (ds.all p)) := by
  rw [fz_map_pur ds fun x => D.bl (p x)]
  have := all_blsK (ds.map p)
  rw [List.map_map] at this
  rw [show (ds.map fun x => D.bl (p x)) = ds.map (D.bl ∘ p) from rfl, this, List.all_map]; rfl
def G (d : D) : Prop := okX d = true ∧ wtX d ≤ 16777216
theorem wt_len : ∀ ds : List D, ds.length ≤ wtXs ds
  | [] => Nat.le_refl _
  | d :: ds => by have := wt_len ds; simp only [wtXs, List.length_cons]; omega
theorem wt_mem : ∀ {ds : List D} {d : D}, d ∈ ds → wtX d ≤ wtXs ds
  | e :: ds, d, hm => by
    simp only [wtXs]
    rcases List.mem_cons.mp hm with rfl | hm
    · omega
    · have := wt_mem hm; omega
theorem G.tup {ds : List D} (h : G (.tup ds)) : ds.length ≤ 16777216 ∧ ∀ x ∈ ds, G x := by
  obtain ⟨a, b⟩ := h
  simp only [wtX] at b
  have := wt_len ds
  exact ⟨by omega, fun x hx => ⟨okXs_mem (by simpa only [okX] using a) hx, by have := wt_mem hx; omega⟩⟩
theorem G.lst {ds : List D} (h : G (.lst ds)) : ds.length ≤ 16777216 ∧ ∀ x ∈ ds, G x := by
  obtain ⟨a, b⟩ := h
  simp only [wtX] at b
  have := wt_len ds
  exact ⟨by omega, fun x hx => ⟨okXs_mem (by simpa only [okX] using a) hx, by have := wt_mem hx; omega⟩⟩
theorem inR_int (a b i : Int) : inR a b (.int i) = (decide (a ≤ i) && decide (i ≤ b)) := by
  show decide (a ≤ i ∧ i ≤ b) = _
  by_cases h1 : a ≤ i <;> by_cases h2 : i ≤ b <;> simp [h1, h2]
theorem inR_no {a b : Int} {d : D} (h : isI d = false) : inR a b d = false := by cases d <;> first | rfl | cases h
theorem is_entry_spec {d : D} {w : Nat} (h : G d) : Ex f_is_entry [.pur d, .pur (.int w)] fun r _ => r = .pur (.bl (entB w d)) := by
  refine Ex_run ?_
  show EvS _ [_, _, _] _ _ _ _
  unfold b_is_entry
  by_cases hd : ∃ ds, d = .tup ds
  · obtain ⟨ds, rfl⟩ := hd
    have hp := h.tup
    walk_at "s"
    refine ite_dec (fun h1 => ?_) (fun h1 => ?_)
    · walk_at "s"
      refine Ev_comp_inv ?_
      walk_at "s"
      refine comp_ds (fun x => .pur (.bl (inR 0 (10 ^ 18) x))) ?_ ?_ hp.1
      · rintro x hx
        refine ⟨_, rfl, ?_⟩
        walk_at "n"
        walk_at "s"
        refine (sizeX_spec (ty_ok (hp.2 x hx).1)).mono ?_
        rintro _ _ rfl
        exact ⟨rfl, rfl⟩
      · walk_at "s"
        refine ⟨_, all_ds _, ?_⟩
        walk_at "s"
        show _ = O.pur (.bl (decide _ && _))
        rw [decide_eq_true (by omega), Bool.true_and]
    · rw [decide_eq_false h1]
      refine ⟨_, rfl, ?_⟩
      show _ = O.pur (.bl (decide _ && _))
      rw [decide_eq_false (fun q => h1 (by omega)), Bool.false_and]
  · have e : entB w d = false := by cases d <;> first | rfl | exact absurd ⟨_, rfl⟩ hd
    rw [e]
    cases d <;> first | exact absurd ⟨_, rfl⟩ hd | (obtain ⟨h, -⟩ := h; simp [okX] at h; done) | skip
    all_goals
      walk_at "s"
      first | rfl | trivial
theorem law_is_entry_spec {d : D} {w : Nat} (h : G d) : Ex f_law_is_entry [.pur d, .pur (.int w)] fun r _ => r = .pur (.bl (entB w d)) := by
  refine Ex_run ?_
  show EvS _ [_, _, _] _ _ _ _
  unfold b_law_is_entry
  by_cases hd : ∃ ds, d = .tup ds
  · obtain ⟨ds, rfl⟩ := hd
    have hp := h.tup
    walk_at "s"
    refine ite_ndec (fun h1 => ?_) (fun h1 => ?_)
    · walk_at "s"
      show _ = O.pur (.bl (decide _ && _))
      rw [decide_eq_false (fun q => h1 (by omega)), Bool.false_and]
    · walk_at "s"
      refine Ev_comp_inv ?_
      walk_at "s"
      refine comp_ds (fun x => .pur (.bl (inR 0 (10 ^ 18) x))) ?_ ?_ hp.1
      · rintro x hx
        refine ⟨_, rfl, ?_⟩
        walk_at "n"
        walk_at "s"
        refine (whole_spec (ty_ok (hp.2 x hx).1)).mono ?_
        rintro _ _ rfl
        by_cases hi : ∃ i, x = .int i
        · obtain ⟨i, rfl⟩ := hi
          rw [inR_int]
          refine ⟨_, rfl, ?_⟩
          rw [if_pos (show isI (.int i) = true from rfl)]
          walk_at "e"
          by_cases h1 : 0 ≤ i
          · rw [decide_eq_true h1]
            walk_at "e"
            exact ⟨rfl, rfl⟩
          · rw [decide_eq_false h1]
            walk_at "e"
            exact ⟨rfl, rfl⟩
        · have e : isI x = false := by cases x <;> first | rfl | exact absurd ⟨_, rfl⟩ hi
          rw [inR_no e, e]
          walk_at "e"
          exact ⟨rfl, rfl⟩
      · walk_at "s"
        refine ⟨_, all_ds _, ?_⟩
        walk_at "s"
        show _ = O.pur (.bl (decide _ && _))
        rw [decide_eq_true (by omega), Bool.true_and]
  · have e : entB w d = false := by cases d <;> first | rfl | exact absurd ⟨_, rfl⟩ hd
    rw [e]
    cases d <;> first | exact absurd ⟨_, rfl⟩ hd | (obtain ⟨h, -⟩ := h; simp [okX] at h; done) | skip
    all_goals
      walk_at "s"
      first | rfl | trivial
theorem are_entries_spec {d : D} {w : Nat} (h : G d) : Ex f_are_entries [.pur d, .pur (.int w), .pur (.int 400)] fun r _ => r = .pur (.bl (logB w d)) := by
  refine Ex_run ?_
  show EvS _ [_, _, _, _] _ _ _ _
  unfold b_are_entries
  by_cases hd : ∃ ds, d = .lst ds
  · obtain ⟨ds, rfl⟩ := hd
    have hp := h.lst
    walk_at "s"
    refine ite_dec (fun h1 => ?_) (fun h1 => ?_)
    · walk_at "s"
      show _ = O.pur (.bl (decide _ && _))
      rw [decide_eq_false (by omega), Bool.false_and]
    · walk_at "s"
      refine Ev_comp_inv ?_
      walk_at "s"
      refine comp_ds (fun x => .pur (.bl (entB w x))) ?_ ?_ hp.1
      · rintro x hx
        refine ⟨_, rfl, ?_⟩
        walk_at "n"
        walk_at "s"
        refine (is_entry_spec (hp.2 x hx)).mono ?_
        rintro _ _ rfl
        exact ⟨rfl, rfl⟩
      · walk_at "s"
        refine ⟨_, all_ds _, ?_⟩
        walk_at "s"
        show _ = O.pur (.bl (decide _ && _))
        rw [decide_eq_true (by omega), Bool.true_and]
  · have e : logB w d = false := by cases d <;> first | rfl | exact absurd ⟨_, rfl⟩ hd
    rw [e]
    cases d <;> first | exact absurd ⟨_, rfl⟩ hd | (obtain ⟨h, -⟩ := h; simp [okX] at h; done) | skip
    all_goals
      walk_at "s"
      first | rfl | trivial
theorem law_is_log_spec {d : D} {w : Nat} (h : G d) : Ex f_law_is_log [.pur d, .pur (.int w)] fun r _ => r = .pur (.bl (logB w d)) := by
  refine Ex_run ?_
  show EvS _ [_, _, _] _ _ _ _
  unfold b_law_is_log
  by_cases hd : ∃ ds, d = .lst ds
  · obtain ⟨ds, rfl⟩ := hd
    have hp := h.lst
    walk_at "s"
    refine ite_dec (fun h1 => ?_) (fun h1 => ?_)
    · walk_at "s"
      show _ = O.pur (.bl (decide _ && _))
      rw [decide_eq_false (by omega), Bool.false_and]
    · walk_at "s"
      refine Ev_comp_inv ?_
      walk_at "s"
      refine comp_ds (fun x => .pur (.bl (entB w x))) ?_ ?_ hp.1
      · rintro x hx
        refine ⟨_, rfl, ?_⟩
        walk_at "n"
        walk_at "s"
        refine (law_is_entry_spec (hp.2 x hx)).mono ?_
        rintro _ _ rfl
        exact ⟨rfl, rfl⟩
      · walk_at "s"
        refine ⟨_, all_ds _, ?_⟩
        walk_at "s"
        show _ = O.pur (.bl (decide _ && _))
        rw [decide_eq_true (by omega), Bool.true_and]
  · have e : logB w d = false := by cases d <;> first | rfl | exact absurd ⟨_, rfl⟩ hd
    rw [e]
    cases d <;> first | exact absurd ⟨_, rfl⟩ hd | (obtain ⟨h, -⟩ := h; simp [okX] at h; done) | skip
    all_goals
      walk_at "s"
      first | rfl | trivial
theorem is_log_spec {d : D} {w : Nat} (h : G d) : Ex f_is_log [.pur d, .pur (.int w)] fun r _ => r = .pur (.bl (logB w d)) := by
  refine Ex_run ?_
  show EvS _ [_, _] _ _ _ _
  unfold b_is_log
  walk_at "s"
  refine (are_entries_spec h).mono ?_
  rintro _ _ rfl
  first | rfl | exact ⟨_, rfl, rfl⟩
theorem tierB_len {w : Nat} {ds : List D} (h : ds.length ≠ 2) : tierB w (.tup ds) = false := by
  match ds, h with
  | [], _ => rfl
  | [_], _ => rfl
  | [_, _], h => exact absurd rfl h
  | _ :: _ :: _ :: _, _ => rfl
theorem two_of {ds : List D} (h : ds.length = 2) : ∃ a b, ds = [a, b] := by
  match ds, h with
  | [a, b], _ => exact ⟨a, b, rfl⟩
theorem is_tier_spec {d : D} {w : Nat} (h : G d) : Ex f_is_tier [.pur d, .pur (.int w)] fun r _ => r = .pur (.bl (tierB w d)) := by
  refine Ex_run ?_
  show EvS _ [_, _] _ _ _ _
  unfold b_is_tier
  by_cases hd : ∃ ds, d = .tup ds
  · obtain ⟨ds, rfl⟩ := hd
    have hp := h.tup
    refine S_seq ?_
    walk_at "e"
    refine ite_ndec (fun h1 => ?_) (fun h1 => ?_)
    · walk_at "e"
      rw [tierB_len (by omega)]
    · obtain ⟨a, b, rfl⟩ : ∃ a b, ds = [a, b] := two_of (by omega)
      have ha := ty_ok (hp.2 a (by simp)).1
      have hb := ty_ok (hp.2 b (by simp)).1
      walk_at "e"
      refine (betweenX_spec ha).mono ?_
      rintro _ _ rfl
      refine ⟨_, rfl, ?_⟩
      cases e : inR 0 (w - 1 : Int) a with
      | false =>
        rw [if_neg Bool.false_ne_true]
        walk_at "e"
        show _ = O.pur (.bl (inR 0 (w - 1 : Int) a && inR 0 (10 ^ 18) b))
        rw [e]; rfl
      | true =>
        rw [if_pos rfl]
        walk_at "e"
        refine (sizeX_spec hb).mono ?_
        rintro _ _ rfl
        walk_at "e"
        show _ = O.pur (.bl (inR 0 (w - 1 : Int) a && inR 0 (10 ^ 18) b))
        rw [e]; rfl
  · have e : tierB w d = false := by cases d <;> first | rfl | exact absurd ⟨_, rfl⟩ hd
    rw [e]
    cases d <;> first | exact absurd ⟨_, rfl⟩ hd | (obtain ⟨h, -⟩ := h; simp [okX] at h; done) | skip
    all_goals
      walk_at "s"
      first | rfl | trivial
theorem law_is_tier_spec {d : D} {w : Nat} (h : G d) : Ex f_law_is_tier [.pur d, .pur (.int w)] fun r _ => r = .pur (.bl (tierB w d)) := by
  refine Ex_run ?_
  show EvS _ [_, _] _ _ _ _
  unfold b_law_is_tier
  by_cases hd : ∃ ds, d = .tup ds
  · obtain ⟨ds, rfl⟩ := hd
    have hp := h.tup
    refine S_seq ?_
    walk_at "e"
    refine ite_ndec (fun h1 => ?_) (fun h1 => ?_)
    · walk_at "e"
      rw [tierB_len (by omega)]
    · obtain ⟨a, b, rfl⟩ : ∃ a b, ds = [a, b] := two_of (by omega)
      have ha := ty_ok (hp.2 a (by simp)).1
      have hb := ty_ok (hp.2 b (by simp)).1
      have no : isI a = false ∨ isI b = false → tierB w (.tup [a, b]) = false := by
        intro q
        show (inR 0 (w - 1 : Int) a && inR 0 (10 ^ 18) b) = false
        rcases q with q | q
        · rw [inR_no q]; rfl
        · rw [inR_no q, Bool.and_false]
      walk_at "e"
      refine (whole_spec ha).mono ?_
      rintro _ _ rfl
      refine ⟨_, rfl, ?_⟩
      cases e : isI a with
      | false =>
        walk_at "e"
        rw [no (.inl e)]
      | true =>
        walk_at "e"
        refine (whole_spec hb).mono ?_
        rintro _ _ rfl
        refine ⟨_, rfl, ?_⟩
        cases e2 : isI b with
        | false =>
          walk_at "e"
          rw [no (.inr e2)]
        | true =>
          obtain ⟨i, rfl⟩ : ∃ i, a = .int i := by cases a <;> first | exact ⟨_, rfl⟩ | cases e
          obtain ⟨j, rfl⟩ : ∃ i, b = .int i := by cases b <;> first | exact ⟨_, rfl⟩ | cases e2
          rw [show tierB w (.tup [.int i, .int j]) = ((decide (0 ≤ i) && decide (i ≤ w - 1)) && (decide (0 ≤ j) && decide (j ≤ 10 ^ 18))) from by rw [← inR_int, ← inR_int]; rfl]
          walk_at "e"
          by_cases h1 : 0 ≤ i
          · rw [if_pos (decide_eq_true h1)]
            rw [decide_eq_true h1]
            walk_at "e"
            by_cases h2 : i < w
            · rw [if_pos (decide_eq_true h2)]
              rw [decide_eq_true (show i ≤ (w : Int) - 1 by omega)]
              walk_at "e"
              by_cases h3 : 0 ≤ j
              · rw [if_pos (decide_eq_true h3)]
                rw [decide_eq_true h3]
                walk_at "e"
                rw [show (10 : Int) ^ 18 = 1000000000000000000 from by decide]
                rfl
              · rw [if_neg (fun q => h3 (of_decide_eq_true q))]
                rw [decide_eq_false h3]
                first | exact ⟨_, rfl, rfl⟩ | rfl | trace_state
            · rw [if_neg (fun q => h2 (of_decide_eq_true q))]
              rw [decide_eq_false h2, decide_eq_false (show ¬ i ≤ (w : Int) - 1 by omega)]
              first | exact ⟨_, rfl, rfl⟩ | rfl | trace_state
          · rw [if_neg (fun q => h1 (of_decide_eq_true q))]
            rw [decide_eq_false h1]
            refine ⟨_, rfl, ?_⟩
            rw [if_neg Bool.false_ne_true]
            first | exact ⟨_, rfl, rfl⟩ | rfl | trace_state
  · have e : tierB w d = false := by cases d <;> first | rfl | exact absurd ⟨_, rfl⟩ hd
    rw [e]
    cases d <;> first | exact absurd ⟨_, rfl⟩ hd | (obtain ⟨h, -⟩ := h; simp [okX] at h; done) | skip
    all_goals
      walk_at "s"
      first | rfl | trivial
theorem are_tiers_spec {d : D} {w : Nat} (h : G d) : Ex f_are_tiers [.pur d, .pur (.int w)] fun r _ => r = .pur (.bl (tiersB w d)) := by
  refine Ex_run ?_
  show EvS _ [_, _, _] _ _ _ _
  unfold b_are_tiers
  by_cases hd : ∃ ds, d = .lst ds
  · obtain ⟨ds, rfl⟩ := hd
    have hp := h.lst
    refine S_seq ?_
    walk_at "e"
    refine ite_dec (fun h1 => ?_) (fun h1 => ?_)
    · walk_at "e"
      refine ite_ndec (fun h2 => ?_) (fun h2 => ?_)
      · walk_at "e"
        show _ = O.pur (.bl (decide _ && _))
        rw [decide_eq_false (by omega), Bool.false_and]
      · walk_at "e"
        refine Ev_comp_inv ?_
        walk_at "e"
        refine comp_ds (fun x => .pur (.bl (tierB w x))) ?_ ?_ hp.1
        · rintro x hx
          refine ⟨_, rfl, ?_⟩
          walk_at "n"
          walk_at "e"
          refine (is_tier_spec (hp.2 x hx)).mono ?_
          rintro _ _ rfl
          exact ⟨rfl, rfl⟩
        · walk_at "e"
          refine ⟨_, all_ds _, ?_⟩
          walk_at "e"
          show _ = O.pur (.bl (decide _ && _))
          rw [decide_eq_true (by omega), Bool.true_and]
    · walk_at "e"
      show _ = O.pur (.bl (decide _ && _))
      rw [decide_eq_false (by omega), Bool.false_and]
  · have e : tiersB w d = false := by cases d <;> first | rfl | exact absurd ⟨_, rfl⟩ hd
    rw [e]
    cases d <;> first | exact absurd ⟨_, rfl⟩ hd | (obtain ⟨h, -⟩ := h; simp [okX] at h; done) | skip
    all_goals
      walk_at "s"
      first | rfl | trivial
theorem law_are_tiers_spec {d : D} {w : Nat} (h : G d) : Ex f_law_are_tiers [.pur d, .pur (.int w)] fun r _ => r = .pur (.bl (tiersB w d)) := by
  refine Ex_run ?_
  show EvS _ [_, _, _] _ _ _ _
  unfold b_law_are_tiers
  by_cases hd : ∃ ds, d = .lst ds
  · obtain ⟨ds, rfl⟩ := hd
    have hp := h.lst
    refine S_seq ?_
    walk_at "e"
    refine ite_dec (fun h1 => ?_) (fun h1 => ?_)
    · walk_at "e"
      refine ite_ndec (fun h2 => ?_) (fun h2 => ?_)
      · walk_at "e"
        show _ = O.pur (.bl (decide _ && _))
        rw [decide_eq_false (by omega), Bool.false_and]
      · walk_at "e"
        refine Ev_comp_inv ?_
        walk_at "e"
        refine comp_ds (fun x => .pur (.bl (tierB w x))) ?_ ?_ hp.1
        · rintro x hx
          refine ⟨_, rfl, ?_⟩
          walk_at "n"
          walk_at "e"
          refine (law_is_tier_spec (hp.2 x hx)).mono ?_
          rintro _ _ rfl
          exact ⟨rfl, rfl⟩
        · walk_at "e"
          refine ⟨_, all_ds _, ?_⟩
          walk_at "e"
          show _ = O.pur (.bl (decide _ && _))
          rw [decide_eq_true (by omega), Bool.true_and]
    · walk_at "e"
      show _ = O.pur (.bl (decide _ && _))
      rw [decide_eq_false (by omega), Bool.false_and]
  · have e : tiersB w d = false := by cases d <;> first | rfl | exact absurd ⟨_, rfl⟩ hd
    rw [e]
    cases d <;> first | exact absurd ⟨_, rfl⟩ hd | (obtain ⟨h, -⟩ := h; simp [okX] at h; done) | skip
    all_goals
      walk_at "s"
      first | rfl | trivial
theorem cut_mem {ds : List D} {lo hi : Option Int} {x : D} (h : x ∈ cut ds lo hi) : x ∈ ds := by
  unfold cut at h
  exact List.mem_of_mem_drop (List.mem_of_mem_take h)
theorem cut_len (ds : List D) (lo hi : Option Int) : (cut ds lo hi).length ≤ ds.length := by
  unfold cut
  rw [List.length_take, List.length_drop]
  omega
/-- a list or a tuple of parts -/
def SeqD (k n m : Nat) (d : D) : Prop := ∃ ds, (d = .lst ds ∨ d = .tup ds) ∧ ds.length ≤ m ∧ ∀ x ∈ ds, NiceX k n x
theorem SeqD.nice {k n m : Nat} {d : D} (h : SeqD k n m d) : NiceX (k + 1) (m * (n + 2) + 3) d := by
  obtain ⟨ds, e, hl, hx⟩ := h
  have hm := Nat.mul_le_mul_right (n + 2) hl
  rcases e with rfl | rfl
  · exact (NiceX.lst hx).mono (Nat.le_refl _) (by omega)
  · exact (NiceX.tup hx).mono (Nat.le_refl _) (by omega)
theorem ix_lstE {ds : List D} {k : Int} (h0 : 0 ≤ k) (h1 : k < ds.length) : ∃ d, d ∈ ds ∧ ixD (.lst ds) (.int k) = some d := by
  obtain ⟨d, e, p⟩ := ix_any (P := fun d => d ∈ ds) h0 h1 fun d hd => hd
  exact ⟨d, p, e⟩
/-! 0 bag*, 1 thing, 2 way, 3 parts, 4 at -/
theorem bent_spec {b : O} {k n m : Nat} {d : D} (hb : BagOk b) (hk : 4 ≤ k) (hn : 1000 ≤ n) (hm : m ≤ 100000) (hd : SeqD k n m d) :
    Ex f_law_bent [b, .pur d] fun r outs => ∃ d' b', r = .pur d' ∧ outs = [b'] ∧ BagOk b' ∧ SeqD k n (2 * m + 1) d' := by
  obtain ⟨ds, e, hl, hx⟩ := hd
  have hll : listL [d] = some ds := by rcases e with rfl | rfl <;> rfl
  refine Ex_run ?_
  show EvS _ [_, _, _, _, _] _ _ _ _
  unfold b_law_bent
  refine S_seq ?_
  walk_at "e"
  rename_i way b1 hw0 hw1 hb1
  refine S_seq ?_
  walk_at "e"
  refine ⟨_, hll, of_decide_eq_true rfl, ?_⟩
  rw [plO_fz]
  walk_at "n"
  refine S_seq ?_
  walk_at "e"
  rename_i at0 b2 ha0 ha1 hb2
  refine S_seq ?_
  walk_at "e"
  refine ite_dec (fun h1 => ?_) (fun h1 => ?_)
  · walk_at "e"
    rcases e with rfl | rfl
    · walk_at "e"
      exact ⟨_, _, rfl, rfl, hb2, ds, .inr rfl, by omega, hx⟩
    · walk_at "e"
      exact ⟨_, _, rfl, rfl, hb2, ds, .inl rfl, by omega, hx⟩
  walk_at "e"
  refine S_cut (fun ρ => ∃ (b : O) (es : List D), ρ = [some (b), some (.pur (d)), some (.pur (.int way)), some (.pur (.lst es)), some (.pur (.int at0))] ∧ BagOk b ∧ es.length ≤ 2 * m + 1 ∧ ∀ x ∈ es, NiceX k n x) ?_ ?_
  · have c1 := cut_len ds none (some at0)
    have c2 := cut_len ds (some at0) none
    have c3 := cut_len ds (some (at0 + 1)) none
    have fin3 : ∀ {x : D} {lo : Option Int}, Odd x → ∀ y ∈ (cut ds none (some at0) ++ [x]) ++ cut ds lo none, NiceX k n y := by
      intro x lo ho y hy
      rcases List.mem_append.mp hy with hy | hy
      · rcases List.mem_append.mp hy with hy | hy
        · exact hx y (cut_mem hy)
        · rw [List.mem_singleton.mp hy]; exact ho.2.mono hk hn
      · exact hx y (cut_mem hy)
    walk_at "e"
    refine ite_dec (fun h2 => ?_) (fun h2 => ?_)
    · walk_at "e"
      refine ⟨_, add_ll (by omega), of_decide_eq_true rfl, _, _, rfl, hb2, by rw [List.length_append]; omega, ?_⟩
      intro y hy
      rcases List.mem_append.mp hy with hy | hy
      · exact hx y (cut_mem hy)
      · exact hx y (cut_mem hy)
    · walk_at "e"
      refine ite_dec (fun h3 => ?_) (fun h3 => ?_)
      · walk_at "e"
        refine Ev_ecall ?_
        walk_at "e"
        refine (odd_spec hb2).mono ?_
        rintro _ _ ⟨x, b3, rfl, rfl, hb3, ho⟩
        simp only [putOuts]
        walk_at "n"
        walk_at "e"
        refine ⟨_, add_ll (by simp only [List.length_cons, List.length_nil]; omega), ?_⟩
        walk_at "e"
        refine ⟨_, add_lst (by simp only [List.length_append, List.length_cons, List.length_nil]; omega), of_decide_eq_true rfl, ?_⟩
        rw [plO_fz]
        walk_at "n"
        refine ⟨_, _, rfl, hb3, ?_, fin3 ho⟩
        simp only [List.length_append, List.length_cons, List.length_nil]
        omega
      · walk_at "e"
        refine ite_dec (fun h4 => ?_) (fun h4 => ?_)
        · walk_at "e"
          refine Ev_ecall ?_
          walk_at "e"
          refine (odd_spec hb2).mono ?_
          rintro _ _ ⟨x, b3, rfl, rfl, hb3, ho⟩
          simp only [putOuts]
          walk_at "n"
          walk_at "e"
          refine ⟨_, add_ll (by simp only [List.length_cons, List.length_nil]; omega), ?_⟩
          walk_at "e"
          refine ⟨_, add_lst (by simp only [List.length_append, List.length_cons, List.length_nil]; omega), of_decide_eq_true rfl, ?_⟩
          rw [plO_fz]
          walk_at "n"
          refine ⟨_, _, rfl, hb3, ?_, fin3 ho⟩
          simp only [List.length_append, List.length_cons, List.length_nil]
          omega
        · walk_at "e"
          exact ⟨_, _, rfl, hb2, by omega, hx⟩
  rintro _ ⟨b3, es, rfl, hb3, hel, hex⟩
  rcases e with rfl | rfl
  · walk_at "e"
    exact ⟨_, _, rfl, rfl, hb3, es, .inl rfl, hel, hex⟩
  · walk_at "e"
    exact ⟨_, _, rfl, rfl, hb3, es, .inr rfl, hel, hex⟩
theorem deep_spec {b : O} {n : Nat} {ds : List D} (hb : BagOk b) (hl : ds.length ≤ 402) (hx : ∀ x ∈ ds, SeqD 4 1000 4 x) (hnice : Nice 64 n (.lst ds)) :
    Ex f_law_deep_bent [b, .pur (.lst ds)] fun r outs => ∃ d' b', r.fz = d' ∧ outs = [b'] ∧ BagOk b' ∧ NiceX 7 7300000 d' := by
  have hin : ∀ x ∈ ds, NiceX 5 9021 x := fun x h => (hx x h).nice.mono (by omega) (by omega)
  have hb1 : ∀ {b : O}, BagOk b → Ex f_law_bent [b, .pur (.lst ds)] fun r outs => ∃ d' b', r = .pur d' ∧ outs = [b'] ∧ BagOk b' ∧ SeqD 5 9021 (2 * 402 + 1) d' := fun hb => bent_spec hb (by omega) (by omega) (by omega) ⟨ds, .inl rfl, hl, hin⟩
  refine Ex_run ?_
  show EvS _ [_, _, _] _ _ _ _
  unfold b_law_deep_bent
  refine S_seq ?_
  walk_at "e"
  refine ⟨_, eq_nil hnice, ?_⟩
  cases hem : ds.isEmpty with
  | true =>
    rw [if_pos rfl, if_pos trivial]
    walk_at "e"
    refine Ev_ecall ?_
    walk_at "e"
    refine (hb1 hb).mono ?_
    rintro _ _ ⟨d', b', rfl, rfl, hb', hs⟩
    simp only [putOuts]
    walk_at "n"
    exact ⟨_, rfl, d', b', rfl, rfl, hb', hs.nice.mono (by omega) (by omega)⟩
  | false =>
    have hne : 0 < ds.length := by
      cases ds with
      | nil => cases hem
      | cons a l => simp
    rw [if_neg Bool.false_ne_true]
    walk_at "e"
    rename_i r0 b1 hr0 hr1 hb1'
    refine ite_dec (fun h1 => ?_) (fun h1 => ?_)
    · walk_at "e"
      refine Ev_ecall ?_
      walk_at "e"
      refine (hb1 hb1').mono ?_
      rintro _ _ ⟨d', b', rfl, rfl, hb', hs⟩
      simp only [putOuts]
      walk_at "n"
      exact ⟨_, rfl, d', b', rfl, rfl, hb', hs.nice.mono (by omega) (by omega)⟩
    · walk_at "e"
      refine S_seq ?_
      walk_at "e"
      rename_i at0 b2 ha0 ha1 hb2
      obtain ⟨x, hxm, hix⟩ := ix_lstE ha0 ha1
      refine Ev_ecall ?_
      walk_at "e"
      refine ⟨_, hix, ?_⟩
      walk_at "e"
      refine (bent_spec hb2 (by omega) (by omega) (by omega) (hx x hxm)).mono ?_
      rintro _ _ ⟨d', b', rfl, rfl, hb', hs⟩
      simp only [putOuts]
      walk_at "n"
      walk_at "e"
      have c1 := cut_len ds none (some at0)
      have c3 := cut_len ds (some (at0 + 1)) none
      refine ⟨_, add_ll (by simp only [List.length_cons, List.length_nil]; omega), ?_⟩
      walk_at "e"
      refine ⟨_, add_lst (by simp only [List.length_append, List.length_cons, List.length_nil]; omega), ?_⟩
      refine ⟨_, rfl, _, _, plO_fz _, rfl, hb', ?_⟩
      refine (NiceX.lst (k := 5) (n := 9021) ?_).mono (by omega) (by simp only [List.length_append, List.length_cons, List.length_nil]; omega)
      intro y hy
      rcases List.mem_append.mp hy with hy | hy
      · rcases List.mem_append.mp hy with hy | hy
        · exact hin y (cut_mem hy)
        · rw [List.mem_singleton.mp hy]; exact hs.nice.mono (by omega) (by omega)
      · exact hin y (cut_mem hy)
theorem vast_spec {b : O} (hb : BagOk b) : Ex f_law_vast [b] fun r outs => ∃ b', outs = [b'] ∧ BagOk b' ∧ NiceX 30 1400000 r.fz := by
  refine Ex_run ?_
  show EvS _ [_, _, _] _ _ _ _
  unfold b_law_vast
  refine S_seq ?_
  walk_at "e"
  refine ite_dec (fun h1 => ?_) (fun h1 => ?_)
  · walk_at "e"
    rename_i r1 b2 hr0 hr1 hb2
    have e := mul_nL (n := 4990) (by omega) (.int r1)
    refine ⟨_, e, ?_⟩
    walk_at "e"
    refine ⟨_, rfl, hb2, ?_⟩
    rw [plO_fz]
    exact (NiceX.lst (k := 0) (n := 260) fun x hx => by rw [(List.mem_replicate.mp hx).2]; exact (Nice.int (i := r1) (Nat.lt_of_le_of_lt (show _ ≤ 10 ^ 40 by omega) (by decide +kernel))).x).mono (by omega) (by rw [List.length_replicate]; omega)
  · walk_at "e"
    refine S_seq ?_
    walk_at "e"
    rename_i r1 b2 hr0 hr1 hb2
    refine S_seq ?_
    walk_at "e"
    refine loop_rng (f := fun i : Nat => D.int (i : Nat)) (fun i ρ => ∃ (d : D) (x2 : Option O), ρ = [some (b2), some (.pur (d)), x2] ∧ NiceX (i + 1) (5 * i + 3) d) ⟨.lst [], _, rfl, rfl, by decide, by decide⟩ ?_ ?_
    · rintro i _ hi ⟨d, x2, rfl, hd⟩
      refine ⟨_, rfl, ?_⟩
      unfold b_law_vast_L1
      walk_at "n"
      walk_at "e"
      refine ⟨_, _, rfl, ?_⟩
      simp only [fzs, O.fz]
      exact (NiceX.lst (ds := [d]) fun x hx => by rw [List.mem_singleton.mp hx]; exact hd).mono (by omega) (by simp only [List.length_cons, List.length_nil]; omega)
    · rintro _ ⟨d, x2, rfl, hd⟩
      walk_at "e"
      exact ⟨_, rfl, hb2, hd.mono (by omega) (by omega)⟩
def NXs (n : Nat) (ds : List D) : Prop := okXs ds = true ∧ depXs ds ≤ 60 ∧ wtXs ds ≤ n
theorem NXs.nil : NXs 0 [] := ⟨rfl, by decide, by decide⟩
theorem NXs.cons {k n m : Nat} {d : D} {ds : List D} (h : NiceX k n d) (hk : k ≤ 60) (hs : NXs m ds) : NXs (n + 2 + m) (d :: ds) := by
  obtain ⟨a, b, c⟩ := h
  obtain ⟨a2, b2, c2⟩ := hs
  exact ⟨by simp only [okXs, a, a2, Bool.and_self], by simp only [depXs]; omega, by simp only [wtXs]; omega⟩
theorem NXs.lst {n : Nat} {ds : List D} (h : NXs n ds) : NiceX 61 (n + 3) (.lst ds) := by
  obtain ⟨a, b, c⟩ := h
  exact ⟨by simpa only [okX] using a, by simp only [depX]; omega, by simp only [wtX]; omega⟩
theorem tupI_nice {xs : List Int} (hl : xs.length ≤ 4) (hx : ∀ x ∈ xs, 0 ≤ x ∧ x ≤ 10 ^ 18) : SeqD 4 1000 4 (.tup (xs.map .int)) ∧ Nice 1 1060 (.tup (xs.map .int)) := by
  have hi : ∀ x ∈ xs, Nice 0 260 (.int x) := fun x h => Nice.int (Nat.lt_of_le_of_lt (show _ ≤ 10 ^ 40 by have := hx x h; omega) (by decide +kernel))
  refine ⟨⟨_, .inr rfl, by rw [List.length_map]; exact hl, ?_⟩, ?_⟩
  · intro d hd
    obtain ⟨x, h, rfl⟩ := List.mem_map.mp hd
    exact (hi x h).x.mono (by omega) (by omega)
  · refine (Nice.tup (k := 0) (n := 260) (ds := xs.map .int) ?_).mono (by omega) (by rw [List.length_map]; omega)
    intro d hd
    obtain ⟨x, h, rfl⟩ := List.mem_map.mp hd
    exact hi x h
theorem pick_many {a b c : Int} (ha : 0 ≤ a) (ha2 : a < 12) (hb : 0 ≤ b) (hb2 : b < 5) : ∃ k : Nat, k ≤ 402 ∧ ixD (.lst [.int a, .int (398 + b)]) (.int (if decide (c = 0) = true then 1 else 0)) = some (.int (k : Nat)) := by
  obtain ⟨a, rfl⟩ := Int.eq_ofNat_of_zero_le ha
  obtain ⟨b, rfl⟩ := Int.eq_ofNat_of_zero_le hb
  by_cases h : c = 0
  · rw [if_pos (decide_eq_true h)]
    exact ⟨398 + b, by omega, by rw [show (398 : Int) + (b : Nat) = ((398 + b : Nat) : Int) by omega]; rfl⟩
  · rw [if_neg (fun q => h (of_decide_eq_true q))]
    exact ⟨a, by omega, rfl⟩
/-! 0 bag*, 1 width, 2 entry, 3 many, 4 log, 5 tier, 6 tiers*, 7 k, 8 found, 9 measure -/
theorem things_spec {b : O} {w : Nat} (hb : BagOk b) (h1 : 1 ≤ w) (h4 : w ≤ 4) : Ex f_law_things [b, .pur (.int w)] fun r outs => ∃ ds b', r.fz = .lst ds ∧ outs = [b'] ∧ BagOk b' ∧ NiceX 64 16777216 (.lst ds) := by
  refine Ex_run ?_
  show EvS _ [_, _, _, _, _, _, _, _, _, _] _ _ _ _
  unfold b_law_things
  refine S_cut (fun ρ => ∃ (b : O) (xs : List Int), ρ = [some (b), some (.pur (.int ((w : Nat) : Int))), some (.pur (.tup (xs.map .int))), none, none, none, none, none, none, none] ∧ BagOk b ∧ xs.length ≤ 4 ∧ ∀ x ∈ xs, 0 ≤ x ∧ x ≤ 10 ^ 18) ?_ ?_
  · walk_at "e"
    refine Ev_comp_inv ?_
    walk_at "e"
    refine comp_rng (fun i acc ρ => ∃ (o : O) (xs : List Int), acc = xs.map (fun x => O.pur (.int x)) ∧ xs.length = i ∧ (∀ x ∈ xs, 0 ≤ x ∧ x ≤ 10 ^ 18) ∧ ρ = [some (o), some (.pur (.int ((w : Nat) : Int))), none, none, none, none, none, none, none, none] ∧ BagOk o) ⟨b, [], rfl, rfl, by simp, rfl, hb⟩ ?_ ?_ (by omega)
    · rintro i acc _ hi ⟨o, xs, rfl, hi2, hxs, rfl, hb⟩
      refine ⟨_, rfl, ?_⟩
      refine (show Ev tYesM [some (o), some (.pur (.int ((w : Nat) : Int))), none, none, none, none, none, none, none, some (.pur (.int i))] _ from ?_)
      iterate 2 walk_at "e1"
      refine Ev_ecall ?_
      walk_at "e"
      rename_i r1 b1 g1 g2 hb1
      refine (size_spec hb1).mono ?_
      rintro _ _ ⟨a, b2, rfl, ha, rfl, hb2⟩
      simp only [putOuts]
      refine ⟨b2, xs ++ [a], by rw [List.map_append]; rfl, by rw [List.length_append, hi2]; rfl, ?_, rfl, hb2⟩
      intro s hs
      rcases List.mem_append.mp hs with h | h
      · exact hxs s h
      · rw [List.mem_singleton.mp h]; exact ha
    · rintro _ _ ⟨o, xs, rfl, hi2, hxs, rfl, hb⟩
      walk_at "e"
      exact ⟨o, xs, rfl, hb, by omega, hxs⟩
  rintro _ ⟨b, xs, rfl, hb, hxl, hx⟩
  obtain ⟨hS, hE⟩ := tupI_nice hxl hx
  generalize hent : D.tup (xs.map .int) = ent at *
  refine S_seq ?_
  walk_at "e"
  rename_i m0 c0 p0 q0 hb0 m1 c1 p1 q1 hb1 m2 c2 p2 q2 hb2
  obtain ⟨k, hk, e⟩ := pick_many (c := m2) p0 q0 p1 q1
  refine ⟨_, e, of_decide_eq_true rfl, ?_⟩
  walk_at "n"
  refine S_seq ?_
  walk_at "e"
  refine ⟨_, mul_nL (n := k) (by omega) ent, of_decide_eq_true rfl, ?_⟩
  rw [plO_fz]
  walk_at "n"
  refine S_seq ?_
  walk_at "e"
  rename_i t0 d0 s0 u0 hc0 t1 b3 s1 u1 hb3
  obtain ⟨hT, hTE⟩ := tupI_nice (xs := [t0, t1]) (by simp) (by
    intro x hx
    simp only [List.mem_cons, List.not_mem_nil, or_false] at hx
    rcases hx with rfl | rfl <;> omega)
  rw [show (D.tup ([t0, t1].map .int)) = .tup [.int t0, .int t1] from rfl] at hT hTE
  generalize D.tup [.int t0, .int t1] = tier at *
  refine S_seq ?_
  walk_at "e"
  refine S_seq ?_
  walk_at "e"
  rename_i n0 b4 v0 v1 hb4
  obtain ⟨n0, rfl⟩ := Int.eq_ofNat_of_zero_le v0
  rw [Int.toNat_natCast]
  refine loop_rng (f := fun i : Nat => D.int (i : Nat)) (fun i ρ => ∃ (b : O) (ts : List D) (x7 : Option O), ρ = [some (b), some (.pur (.int ((w : Nat) : Int))), some (.pur (ent)), some (.pur (.int ((k : Nat) : Int))), some (.pur (.lst (List.replicate k ent))), some (.pur (tier)), some (.lst (ts.map .pur)), x7, none, none] ∧ BagOk b ∧ ts.length = i ∧ ∀ x ∈ ts, SeqD 4 1000 4 x ∧ Nice 1 1060 x) ⟨b4, [], _, rfl, hb4, rfl, by simp⟩ ?_ ?_
  · rintro i _ hi ⟨b, ts, x7, rfl, hb, hl, hts⟩
    refine ⟨_, rfl, ?_⟩
    unfold b_law_things_L1
    walk_at "n"
    walk_at "e"
    refine Ev_meth rfl ?_
    walk_at "e"
    refine Ev_ecall ?_
    walk_at "e"
    rename_i m0 c0 p0 q0 hb0 m1 c1 p1 q1 hb1
    refine (size_spec hb1).mono ?_
    rintro _ _ ⟨a, b2, rfl, ha, rfl, hb2⟩
    simp only [putOuts]
    walk_at "n"
    walk_at "e"
    refine ⟨_, _, append_any1 (by rw [List.length_map]; omega), ?_⟩
    have e6 : ts.map O.pur ++ [O.pur (D.tup [.int m0, .int a])] = (ts ++ [D.tup [.int m0, .int a]]).map O.pur := by rw [List.map_append]; rfl
    rw [e6]
    refine ⟨b2, ts ++ [.tup [.int m0, .int a]], _, rfl, hb2, by rw [List.length_append, hl]; rfl, ?_⟩
    intro x hx
    rcases List.mem_append.mp hx with h | h
    · exact hts x h
    · rw [List.mem_singleton.mp h]
      exact tupI_nice (xs := [m0, a]) (by simp) (by
        intro x hx
        simp only [List.mem_cons, List.not_mem_nil, or_false] at hx
        rcases hx with rfl | rfl <;> omega)
  rintro _ ⟨b, ts, x7, rfl, hb, hl, hts⟩
  have hNt : Nice 2 (9 * 1062 + 3) (.lst ts) := (Nice.lst (k := 1) (n := 1060) fun x hx => (hts x hx).2).mono (by omega) (by omega)
  have hNl : Nice 2 (402 * 1062 + 3) (.lst (List.replicate k ent)) := (Nice.lst (k := 1) (n := 1060) fun x hx => by rw [(List.mem_replicate.mp hx).2]; exact hE).mono (by omega) (by rw [List.length_replicate]; omega)
  refine S_seq ?_
  walk_at "e"
  refine Ev_ecall ?_
  walk_at "e"
  refine (odd_spec hb).mono ?_
  rintro _ _ ⟨od, b1, rfl, rfl, hb1, ho⟩
  simp only [putOuts]
  walk_at "n"
  walk_at "e"
  simp only [fzs, O.fz]
  first | refine ⟨of_decide_eq_true rfl, ?_⟩ | skip
  walk_at "n"
  refine S_seq ?_
  walk_at "e"
  refine Ev_ecall ?_
  walk_at "e"
  refine (bent_spec hb1 (by omega) (by omega) (by omega) hS).mono ?_
  rintro _ _ ⟨e1, c1, rfl, rfl, hc1, he1⟩
  simp only [putOuts]
  walk_at "n"
  walk_at "e"
  refine Ev_ecall ?_
  walk_at "e"
  refine (deep_spec hc1 (by rw [List.length_replicate]; omega) (fun x hx => by rw [(List.mem_replicate.mp hx).2]; exact hS) (hNl.mono (k' := 64) (n' := 16777216) (by omega) (by omega))).mono ?_
  rintro _ _ ⟨e2, c2, rfl, rfl, hc2, he2⟩
  simp only [putOuts]
  walk_at "n"
  walk_at "e"
  refine Ev_ecall ?_
  walk_at "e"
  refine (bent_spec hc2 (by omega) (by omega) (by omega) hT).mono ?_
  rintro _ _ ⟨e3, c3, rfl, rfl, hc3, he3⟩
  simp only [putOuts]
  walk_at "n"
  walk_at "e"
  refine Ev_ecall ?_
  walk_at "e"
  refine (deep_spec hc3 (by omega) (fun x hx => (hts x hx).1) (hNt.mono (k' := 64) (n' := 16777216) (by omega) (by omega))).mono ?_
  rintro _ _ ⟨e4, c4, rfl, rfl, hc4, he4⟩
  simp only [putOuts]
  walk_at "n"
  walk_at "e"
  refine ⟨_, add_lst (by simp), of_decide_eq_true rfl, ?_⟩
  rw [plO_fz]
  walk_at "n"
  walk_at "e"
  refine ⟨_, add_ll (by omega), ?_⟩
  walk_at "e"
  refine Ev_ecall ?_
  walk_at "e"
  refine (vast_spec hc4).mono ?_
  rintro v _ ⟨c5, rfl, hc5, hv⟩
  simp only [putOuts]
  walk_at "n"
  walk_at "e"
  refine ⟨_, add_lst (by simp), ?_⟩
  walk_at "e"
  refine ⟨_, c5, plO_fz _, rfl, hc5, ?_⟩
  have hw0 : Nice 1 1060 (.tup [.int w, .int 0]) := (tupI_nice (xs := [(w : Int), 0]) (by simp) (by
    intro x hx
    simp only [List.mem_cons, List.not_mem_nil, or_false] at hx
    rcases hx with rfl | rfl <;> omega)).2
  have hw1 : Nice 1 1060 (.tup [.int ((w : Int) - 1), .int 0]) := (tupI_nice (xs := [(w : Int) - 1, 0]) (by simp) (by
    intro x hx
    simp only [List.mem_cons, List.not_mem_nil, or_false] at hx
    rcases hx with rfl | rfl <;> omega)).2
  have hw2 : NiceX 2 1065 (.lst [.tup [.int ((w : Int) - 1), .int 0]]) := (NiceX.lst (k := 1) (n := 1060) fun x hx => by rw [List.mem_singleton.mp hx]; exact hw1.x).mono (by omega) (by simp only [List.length_cons, List.length_nil]; omega)
  have htt : NiceX 2 (18 * 1062 + 3) (.lst (ts ++ ts)) := (NiceX.lst (k := 1) (n := 1060) fun x hx => by
    rcases List.mem_append.mp hx with h | h
    · exact (hts x h).2.x
    · exact (hts x h).2.x).mono (by omega) (by rw [List.length_append]; omega)
  have hnil : NiceX 1 3 (.lst []) := ⟨rfl, by decide, by decide⟩
  have hall := NXs.cons hE.x (by omega) (NXs.cons hNl.x (by omega) (NXs.cons hTE.x (by omega) (NXs.cons hNt.x (by omega) (NXs.cons ho.2 (by omega) (NXs.cons he1.nice (by omega) (NXs.cons he2 (by omega) (NXs.cons he3.nice (by omega) (NXs.cons he4 (by omega) (NXs.cons htt (by omega) (NXs.cons hnil (by omega) (NXs.cons hw0.x (by omega) (NXs.cons hw2 (by omega) (NXs.cons hv (by omega) NXs.nil)))))))))))))
  exact hall.lst.mono (by omega) (by omega)
/-! law: 0 script, 1 bag*, 2 turn, 3 width, 4 things, 5 asked, 6 kept, 7 thing, 8 found, 9 due -/
theorem law_pure (ns : List Int) (h : ns.length ≤ 63) : f_law [.pur (.scr ns)] = some (.pur (.bl true), []) := by
  refine law_of (Ex_run ?_)
  show EvS _ [_, _, _, _, _, _, _, _, _, _] _ _ _ _
  unfold b_law
  refine S_seq ?_
  walk_at "e"
  refine (bag_spec ns).mono ?_
  rintro b _ ⟨hb, -⟩
  refine ⟨of_decide_eq_true rfl, ?_⟩
  walk_at "n"
  walk_at "s"
  refine loop_rng (f := fun i : Nat => D.int (i : Nat)) (fun i ρ => ∃ (b : O) (x2 x3 x4 x5 x6 x7 x8 x9 : Option O), ρ = [some (.pur (.scr ns)), some (b), x2, x3, x4, x5, x6, x7, x8, x9] ∧ BagOk b) ⟨_, _, _, _, _, _, _, _, _, rfl, hb⟩ ?_ ?_
  · rintro i _ hi ⟨b, x2, x3, x4, x5, x6, x7, x8, x9, rfl, hb⟩
    refine ⟨_, rfl, ?_⟩
    unfold b_law_L2
    walk_at "n"
    refine S_seq ?_
    walk_at "e"
    rename_i w0 b1 g1 g2 hb1
    obtain ⟨w0, rfl⟩ := Int.eq_ofNat_of_zero_le g1
    rw [show (1 : Int) + (w0 : Int) = ((1 + w0 : Nat) : Int) by omega]
    generalize hw : 1 + w0 = w at *
    refine S_seq ?_
    walk_at "e"
    refine Ev_ecall ?_
    walk_at "e"
    refine (things_spec hb1 (by omega) (by omega)).mono ?_
    rintro r _ ⟨ds, b2, hr, rfl, hb2, hN⟩
    simp only [putOuts]
    rw [hr]
    walk_at "n"
    refine ⟨of_decide_eq_true rfl, ?_⟩
    walk_at "n"
    refine S_seq ?_
    walk_at "e"
    rename_i a1 c1 p1 q1 hc1 a2 c2 p2 q2 hc2
    obtain ⟨x, hx, a, rfl⟩ := ix_any (ds := [.int w, .int w, .int (1 + a1)]) (k := a2) (P := fun d => ∃ a : Nat, d = .int a) p2 (by show a2 < 3; omega) (by
      intro d hd
      simp only [List.mem_cons, List.not_mem_nil, or_false] at hd
      rcases hd with rfl | rfl | rfl
      · exact ⟨w, rfl⟩
      · exact ⟨w, rfl⟩
      · exact ⟨(1 + a1).toNat, by rw [Int.toNat_of_nonneg (by omega)]⟩)
    refine ⟨_, hx, of_decide_eq_true rfl, ?_⟩
    walk_at "n"
    obtain ⟨z, hz⟩ := hN.repr (by omega)
    have hG : ∀ d ∈ ds, G d := (show G (.lst ds) from ⟨hN.1, hN.2.2⟩).lst.2
    refine S_seq ?_
    walk_at "e"
    refine ⟨_, hz, ?_⟩
    walk_at "e"
    refine S_cut (fun ρ => ∃ (x7 x8 x9 : Option O), ρ = [some (.pur (.scr ns)), some (c2), some (.pur (.int ((i : Nat) : Int))), some (.pur (.int ((w : Nat) : Int))), some (.pur (.lst ds)), some (.pur (.int ((a : Nat) : Int))), some (.pur (.str z)), x7, x8, x9]) ?_ ?_
    · walk_at "e"
      refine ⟨fun _ ρ => ∃ (x7 x8 x9 : Option O), ρ = [some (.pur (.scr ns)), some (c2), some (.pur (.int ((i : Nat) : Int))), some (.pur (.int ((w : Nat) : Int))), some (.pur (.lst ds)), some (.pur (.int ((a : Nat) : Int))), some (.pur (.str z)), x7, x8, x9], ⟨_, _, _, rfl⟩, ?_, ?_⟩
      · rintro j d _ hd ⟨x7, x8, x9, rfl⟩
        have hg := hG d (List.mem_of_getElem? hd)
        refine ⟨_, rfl, ?_⟩
        unfold b_law_L1
        walk_at "n"
        refine S_seq ?_
        walk_at "e"
        refine (is_entry_spec hg).mono ?_
        rintro _ _ rfl
        walk_at "e"
        refine (is_log_spec hg).mono ?_
        rintro _ _ rfl
        walk_at "e"
        refine (is_tier_spec hg).mono ?_
        rintro _ _ rfl
        walk_at "e"
        refine (are_tiers_spec hg).mono ?_
        rintro _ _ rfl
        walk_at "e"
        simp only [fzs, O.fz]
        refine S_seq ?_
        walk_at "e"
        refine (law_is_entry_spec hg).mono ?_
        rintro _ _ rfl
        walk_at "e"
        refine (law_is_log_spec hg).mono ?_
        rintro _ _ rfl
        walk_at "e"
        simp only [fzs, O.fz]
        refine S_seq ?_
        walk_at "e"
        refine (law_is_tier_spec hg).mono ?_
        rintro _ _ rfl
        walk_at "e"
        refine (law_are_tiers_spec hg).mono ?_
        rintro _ _ rfl
        walk_at "e"
        refine ⟨_, add_lst (by simp), of_decide_eq_true rfl, ?_⟩
        rw [plO_fz]
        walk_at "n"
        walk_at "e"
        refine Ex_of (alike_spec (n := 2000) (d := .lst [.bl (entB a d), .bl (logB a d), .bl (tierB a d), .bl (tiersB a d)]) ((Nice.lst (k := 0) (n := 260) fun y hy => by
          simp only [List.mem_cons, List.not_mem_nil, or_false] at hy
          rcases hy with rfl | rfl | rfl | rfl
          all_goals exact Nice.bl).mono (by omega) (by simp only [List.length_cons, List.length_nil]; omega)) (by omega)) ?_
        walk_at "e"
        exact ⟨_, _, _, rfl⟩
      · rintro _ ⟨x7, x8, x9, rfl⟩
        exact ⟨_, _, _, rfl⟩
    rintro _ ⟨x7, x8, x9, rfl⟩
    walk_at "e"
    refine ⟨_, hz, ?_⟩
    walk_at "e"
    exact ⟨_, _, _, _, _, _, _, _, _, rfl, hc2⟩
  rintro _ ⟨b, x2, x3, x4, x5, x6, x7, x8, x9, rfl, hb⟩
  walk_at "s"
  first | exact ⟨rfl, rfl⟩ | exact ⟨_, rfl, rfl, rfl⟩ | trace_state
end DL.W
set_option Elab.async false
set_option linter.all false
set_option maxRecDepth 100000
set_option maxHeartbeats 0
/-! the walk of law_k12_entries_logs_tiers (printed by gen.py) -/
namespace DL.W
open PySem PySem.Spec PyProof.Rows L2 DL.Sh
open DL.WF
abbrev N_is_integer : List Str := ["thing"]
theorem sc_is_integer : FnScope N_is_integer ["thing"] (defScope s_is_integer) := ⟨rfl, rfl, rfl, by decide +kernel, rfl, by decide +kernel, by decide +kernel⟩
abbrev N_law_bag : List Str := ["_law_script", "_law_cell"]
theorem sc_law_bag : FnScope N_law_bag ["_law_script"] (defScope s_law_bag) := ⟨rfl, rfl, rfl, by decide +kernel, rfl, by decide +kernel, by decide +kernel⟩
abbrev N_law_take : List Str := ["_law_bag_here", "_law_many", "_law_first", "_law_second", "_law_cell", "_law_value"]
theorem sc_law_take : FnScope N_law_take ["_law_bag_here", "_law_many"] (defScope s_law_take) := ⟨rfl, rfl, rfl, by decide +kernel, rfl, by decide +kernel, by decide +kernel⟩
abbrev N_law_alike : List Str := ["_law_found", "_law_due"]
theorem sc_law_alike : FnScope N_law_alike ["_law_found", "_law_due"] (defScope s_law_alike) := ⟨rfl, rfl, rfl, by decide +kernel, rfl, by decide +kernel, by decide +kernel⟩
abbrev N_law_whole : List Str := ["_law_thing"]
theorem sc_law_whole : FnScope N_law_whole ["_law_thing"] (defScope s_law_whole) := ⟨rfl, rfl, rfl, by decide +kernel, rfl, by decide +kernel, by decide +kernel⟩
abbrev N_is_between : List Str := ["thing", "least", "most"]
theorem sc_is_between : FnScope N_is_between ["thing", "least", "most"] (defScope s_is_between) := ⟨rfl, rfl, rfl, by decide +kernel, rfl, by decide +kernel, by decide +kernel⟩
abbrev N_law_size : List Str := ["_law_bag_here", "_law_way"]
theorem sc_law_size : FnScope N_law_size ["_law_bag_here", "_law_way"] (defScope s_law_size) := ⟨rfl, rfl, rfl, by decide +kernel, rfl, by decide +kernel, by decide +kernel⟩
abbrev N_law_vast : List Str := ["_law_bag_here", "_law_found", "_law_k"]
theorem sc_law_vast : FnScope N_law_vast ["_law_bag_here"] (defScope s_law_vast) := ⟨rfl, rfl, rfl, by decide +kernel, rfl, by decide +kernel, by decide +kernel⟩
abbrev N_law_is_entry : List Str := ["_law_thing", "_law_width", "_law_size_here"]
theorem sc_law_is_entry : FnScope N_law_is_entry ["_law_thing", "_law_width"] (defScope s_law_is_entry) := ⟨rfl, rfl, rfl, by decide +kernel, rfl, by decide +kernel, by decide +kernel⟩
abbrev N_law_is_tier : List Str := ["_law_thing", "_law_width"]
theorem sc_law_is_tier : FnScope N_law_is_tier ["_law_thing", "_law_width"] (defScope s_law_is_tier) := ⟨rfl, rfl, rfl, by decide +kernel, rfl, by decide +kernel, by decide +kernel⟩
abbrev N_law_odd : List Str := ["_law_bag_here", "_law_far", "_law_some"]
theorem sc_law_odd : FnScope N_law_odd ["_law_bag_here"] (defScope s_law_odd) := ⟨rfl, rfl, rfl, by decide +kernel, rfl, by decide +kernel, by decide +kernel⟩
abbrev N_is_size : List Str := ["thing"]
theorem sc_is_size : FnScope N_is_size ["thing"] (defScope s_is_size) := ⟨rfl, rfl, rfl, by decide +kernel, rfl, by decide +kernel, by decide +kernel⟩
abbrev N_law_is_log : List Str := ["_law_thing", "_law_width", "_law_entry"]
theorem sc_law_is_log : FnScope N_law_is_log ["_law_thing", "_law_width"] (defScope s_law_is_log) := ⟨rfl, rfl, rfl, by decide +kernel, rfl, by decide +kernel, by decide +kernel⟩
abbrev N_law_are_tiers : List Str := ["_law_thing", "_law_width", "_law_tier"]
theorem sc_law_are_tiers : FnScope N_law_are_tiers ["_law_thing", "_law_width"] (defScope s_law_are_tiers) := ⟨rfl, rfl, rfl, by decide +kernel, rfl, by decide +kernel, by decide +kernel⟩
abbrev N_law_bent : List Str := ["_law_bag_here", "_law_thing", "_law_way", "_law_parts", "_law_at"]
theorem sc_law_bent : FnScope N_law_bent ["_law_bag_here", "_law_thing"] (defScope s_law_bent) := ⟨rfl, rfl, rfl, by decide +kernel, rfl, by decide +kernel, by decide +kernel⟩
abbrev N_is_entry : List Str := ["thing", "width", "size"]
theorem sc_is_entry : FnScope N_is_entry ["thing", "width"] (defScope s_is_entry) := ⟨rfl, rfl, rfl, by decide +kernel, rfl, by decide +kernel, by decide +kernel⟩
abbrev N_is_tier : List Str := ["thing", "width"]
theorem sc_is_tier : FnScope N_is_tier ["thing", "width"] (defScope s_is_tier) := ⟨rfl, rfl, rfl, by decide +kernel, rfl, by decide +kernel, by decide +kernel⟩
abbrev N_law_deep_bent : List Str := ["_law_bag_here", "_law_thing", "_law_at"]
theorem sc_law_deep_bent : FnScope N_law_deep_bent ["_law_bag_here", "_law_thing"] (defScope s_law_deep_bent) := ⟨rfl, rfl, rfl, by decide +kernel, rfl, by decide +kernel, by decide +kernel⟩
abbrev N_are_entries : List Str := ["thing", "width", "most", "entry"]
theorem sc_are_entries : FnScope N_are_entries ["thing", "width", "most"] (defScope s_are_entries) := ⟨rfl, rfl, rfl, by decide +kernel, rfl, by decide +kernel, by decide +kernel⟩
abbrev N_are_tiers : List Str := ["thing", "width", "tier"]
theorem sc_are_tiers : FnScope N_are_tiers ["thing", "width"] (defScope s_are_tiers) := ⟨rfl, rfl, rfl, by decide +kernel, rfl, by decide +kernel, by decide +kernel⟩
abbrev N_law_things : List Str := ["_law_bag_here", "_law_width", "_law_entry", "_law_many", "_law_log", "_law_tier", "_law_tiers", "_law_k", "_law_found", "_law_measure"]
theorem sc_law_things : FnScope N_law_things ["_law_bag_here", "_law_width"] (defScope s_law_things) := ⟨rfl, rfl, rfl, by decide +kernel, rfl, by decide +kernel, by decide +kernel⟩
abbrev N_is_log : List Str := ["thing", "width"]
theorem sc_is_log : FnScope N_is_log ["thing", "width"] (defScope s_is_log) := ⟨rfl, rfl, rfl, by decide +kernel, rfl, by decide +kernel, by decide +kernel⟩
abbrev N_law : List Str := ["_law_script", "_law_bag_here", "_law_turn", "_law_width", "_law_things_here", "_law_asked", "_law_kept", "_law_thing", "_law_found", "_law_due"]
theorem sc_law : FnScope N_law ["_law_script"] (defScope s_law) := ⟨rfl, rfl, rfl, by decide +kernel, rfl, by decide +kernel, by decide +kernel⟩
structure Facts (K : PySem.W.Frag) (mg : Str → Option Value) where
  a_is_integer : Addr
  d_is_integer : FuncData
  F_is_integer : FunD K "is_integer" "is_integer" (defArgs s_is_integer) (defBody s_is_integer) (defScope s_is_integer) [] [] a_is_integer d_is_integer
  m_is_integer : mg "is_integer" = some (.ref a_is_integer)
  a_law_bag : Addr
  d_law_bag : FuncData
  F_law_bag : FunD K "_law_bag" "_law_bag" (defArgs s_law_bag) (defBody s_law_bag) (defScope s_law_bag) [] [] a_law_bag d_law_bag
  m_law_bag : mg "_law_bag" = some (.ref a_law_bag)
  a_law_take : Addr
  d_law_take : FuncData
  F_law_take : FunD K "_law_take" "_law_take" (defArgs s_law_take) (defBody s_law_take) (defScope s_law_take) [] [] a_law_take d_law_take
  m_law_take : mg "_law_take" = some (.ref a_law_take)
  a_law_alike : Addr
  d_law_alike : FuncData
  F_law_alike : FunD K "_law_alike" "_law_alike" (defArgs s_law_alike) (defBody s_law_alike) (defScope s_law_alike) [] [] a_law_alike d_law_alike
  m_law_alike : mg "_law_alike" = some (.ref a_law_alike)
  a_law_whole : Addr
  d_law_whole : FuncData
  F_law_whole : FunD K "_law_whole" "_law_whole" (defArgs s_law_whole) (defBody s_law_whole) (defScope s_law_whole) [] [] a_law_whole d_law_whole
  m_law_whole : mg "_law_whole" = some (.ref a_law_whole)
  a_is_between : Addr
  d_is_between : FuncData
  F_is_between : FunD K "is_between" "is_between" (defArgs s_is_between) (defBody s_is_between) (defScope s_is_between) [] [] a_is_between d_is_between
  m_is_between : mg "is_between" = some (.ref a_is_between)
  a_law_size : Addr
  d_law_size : FuncData
  F_law_size : FunD K "_law_size" "_law_size" (defArgs s_law_size) (defBody s_law_size) (defScope s_law_size) [] [] a_law_size d_law_size
  m_law_size : mg "_law_size" = some (.ref a_law_size)
  a_law_vast : Addr
  d_law_vast : FuncData
  F_law_vast : FunD K "_law_vast" "_law_vast" (defArgs s_law_vast) (defBody s_law_vast) (defScope s_law_vast) [] [] a_law_vast d_law_vast
  m_law_vast : mg "_law_vast" = some (.ref a_law_vast)
  a_law_is_entry : Addr
  d_law_is_entry : FuncData
  F_law_is_entry : FunD K "_law_is_entry" "_law_is_entry" (defArgs s_law_is_entry) (defBody s_law_is_entry) (defScope s_law_is_entry) [] [] a_law_is_entry d_law_is_entry
  m_law_is_entry : mg "_law_is_entry" = some (.ref a_law_is_entry)
  a_law_is_tier : Addr
  d_law_is_tier : FuncData
  F_law_is_tier : FunD K "_law_is_tier" "_law_is_tier" (defArgs s_law_is_tier) (defBody s_law_is_tier) (defScope s_law_is_tier) [] [] a_law_is_tier d_law_is_tier
  m_law_is_tier : mg "_law_is_tier" = some (.ref a_law_is_tier)
  a_law_odd : Addr
  d_law_odd : FuncData
  F_law_odd : FunD K "_law_odd" "_law_odd" (defArgs s_law_odd) (defBody s_law_odd) (defScope s_law_odd) [] [] a_law_odd d_law_odd
  m_law_odd : mg "_law_odd" = some (.ref a_law_odd)
  a_is_size : Addr
  d_is_size : FuncData
  F_is_size : FunD K "is_size" "is_size" (defArgs s_is_size) (defBody s_is_size) (defScope s_is_size) [] [] a_is_size d_is_size
  m_is_size : mg "is_size" = some (.ref a_is_size)
  a_law_is_log : Addr
  d_law_is_log : FuncData
  F_law_is_log : FunD K "_law_is_log" "_law_is_log" (defArgs s_law_is_log) (defBody s_law_is_log) (defScope s_law_is_log) [] [] a_law_is_log d_law_is_log
  m_law_is_log : mg "_law_is_log" = some (.ref a_law_is_log)
  a_law_are_tiers : Addr
  d_law_are_tiers : FuncData
  F_law_are_tiers : FunD K "_law_are_tiers" "_law_are_tiers" (defArgs s_law_are_tiers) (defBody s_law_are_tiers) (defScope s_law_are_tiers) [] [] a_law_are_tiers d_law_are_tiers
  m_law_are_tiers : mg "_law_are_tiers" = some (.ref a_law_are_tiers)
  a_law_bent : Addr
  d_law_bent : FuncData
  F_law_bent : FunD K "_law_bent" "_law_bent" (defArgs s_law_bent) (defBody s_law_bent) (defScope s_law_bent) [] [] a_law_bent d_law_bent
  m_law_bent : mg "_law_bent" = some (.ref a_law_bent)
  a_is_entry : Addr
  d_is_entry : FuncData
  F_is_entry : FunD K "is_entry" "is_entry" (defArgs s_is_entry) (defBody s_is_entry) (defScope s_is_entry) [] [] a_is_entry d_is_entry
  m_is_entry : mg "is_entry" = some (.ref a_is_entry)
  a_is_tier : Addr
  d_is_tier : FuncData
  F_is_tier : FunD K "is_tier" "is_tier" (defArgs s_is_tier) (defBody s_is_tier) (defScope s_is_tier) [] [] a_is_tier d_is_tier
  m_is_tier : mg "is_tier" = some (.ref a_is_tier)
  a_law_deep_bent : Addr
  d_law_deep_bent : FuncData
  F_law_deep_bent : FunD K "_law_deep_bent" "_law_deep_bent" (defArgs s_law_deep_bent) (defBody s_law_deep_bent) (defScope s_law_deep_bent) [] [] a_law_deep_bent d_law_deep_bent
  m_law_deep_bent : mg "_law_deep_bent" = some (.ref a_law_deep_bent)
  a_are_entries : Addr
  d_are_entries : FuncData
  F_are_entries : FunD K "are_entries" "are_entries" (defArgs s_are_entries) (defBody s_are_entries) (defScope s_are_entries) [] [] a_are_entries d_are_entries
  m_are_entries : mg "are_entries" = some (.ref a_are_entries)
  a_are_tiers : Addr
  d_are_tiers : FuncData
  F_are_tiers : FunD K "are_tiers" "are_tiers" (defArgs s_are_tiers) (defBody s_are_tiers) (defScope s_are_tiers) [] [] a_are_tiers d_are_tiers
  m_are_tiers : mg "are_tiers" = some (.ref a_are_tiers)
  a_law_things : Addr
  d_law_things : FuncData
  F_law_things : FunD K "_law_things" "_law_things" (defArgs s_law_things) (defBody s_law_things) (defScope s_law_things) [] [] a_law_things d_law_things
  m_law_things : mg "_law_things" = some (.ref a_law_things)
  a_is_log : Addr
  d_is_log : FuncData
  F_is_log : FunD K "is_log" "is_log" (defArgs s_is_log) (defBody s_is_log) (defScope s_is_log) [] [] a_is_log d_is_log
  m_is_log : mg "is_log" = some (.ref a_is_log)
  a_law : Addr
  d_law : FuncData
  F_law : FunD K "law" "law" (defArgs s_law) (defBody s_law) (defScope s_law) [] [] a_law d_law
  m_law : mg "law" = some (.ref a_law)
  n_abs : mg "abs" = none
  n_all : mg "all" = none
  n_bool : mg "bool" = none
  n_int : mg "int" = none
  n_isinstance : mg "isinstance" = none
  n_len : mg "len" = none
  n_list : mg "list" = none
  n_range : mg "range" = none
  n_repr : mg "repr" = none
  n_tuple : mg "tuple" = none
  t_GREATEST : Tok
  c_GREATEST : mg "GREATEST" = some (.int 1000000000000000000 t_GREATEST)
  t_MOST_ENTRIES : Tok
  c_MOST_ENTRIES : mg "MOST_ENTRIES" = some (.int 400 t_MOST_ENTRIES)
  t_MOST_TIERS : Tok
  c_MOST_TIERS : mg "MOST_TIERS" = some (.int 8 t_MOST_TIERS)
section
variable {P : Program} {w : World} {K : PySem.W.Frag} {mg : Str → Option Value} {base : Heap}
theorem bi_is_integer (T : Facts K mg) : L2.Binds K T.d_is_integer ["thing"] [] := T.F_is_integer.bindsN fun _ _ _ _ _ _ us hl => match us, hl with | [_], _ => rfl
theorem ok_is_integer (T : Facts K mg) : FnG P w K mg base CX0 1 T.a_is_integer T.d_is_integer ["thing"] (spF ⟨K, mg⟩ 1 [] f_is_integer) := by
  exact ok_fn (ws := []) (ios := []) T.F_is_integer sc_is_integer (by decide) fun cdv A outer s H E hr gd =>
  (s_one (s_ret (e_of (d_and (b_isa T.n_isinstance (a_cons (d_var (pv 0)) (a_cons (d_ty (pe_bltn rfl T.n_int (by decide +kernel) rfl)) a_nil))) (d_one (d_not (b_isa T.n_isinstance (a_cons (d_var (pv 0)) (a_cons (d_ty (pe_bltn rfl T.n_bool (by decide +kernel) rfl)) a_nil)))))))))
theorem bi_law_bag (T : Facts K mg) : L2.Binds K T.d_law_bag ["_law_script"] [] := T.F_law_bag.bindsN fun _ _ _ _ _ _ us hl => match us, hl with | [_], _ => rfl
theorem ok_law_bag (T : Facts K mg) : FnG P w K mg base CX0 1 T.a_law_bag T.d_law_bag ["_law_script"] (spF ⟨K, mg⟩ 1 [] f_law_bag) := by
  exact ok_fn (ws := []) (ios := []) T.F_law_bag sc_law_bag (by decide) fun cdv A outer s H E hr gd =>
  (s_one (s_ret (e_lst (ea_cons (e_of (d_int pe_int)) (ea_cons (e_of (d_int pe_int)) (ea_cons (e_of (d_int pe_int)) (ea_cons (e_comp (own := [("_law_cell", 1)]) rfl sc_law_bag.nd (i_seq (d_sl (d_var (pv 0)) o_none (o_some (d_int pe_int)))) (blkOk_by (N := N_law_bag) (sc := defScope s_law_bag) (by decide +kernel)) (fun _ _ _ _ _ => (g_name sc_law_bag.nd rfl (Or.inl rfl) (by decide))) (fun _ _ _ _ _ => ts_nil) (fun _ _ _ _ _ => (e_of (b_abs T.n_abs (a_cons (d_var (pv 1)) a_nil))))) ea_nil)))))))
theorem bi_law_take (T : Facts K mg) : L2.Binds K T.d_law_take ["_law_bag_here", "_law_many"] [] := T.F_law_take.bindsN fun _ _ _ _ _ _ us hl => match us, hl with | [_, _], _ => rfl
theorem ok_law_take (T : Facts K mg) : FnG P w K mg base CX0 1 T.a_law_take T.d_law_take ["_law_bag_here", "_law_many"] (spF ⟨K, mg⟩ 2 [0] f_law_take) := by
  exact ok_fn (ws := [2, 3, 4, 5]) (ios := [0]) T.F_law_take sc_law_take (by decide) fun cdv A outer s H E hr gd =>
  (s_cons (s_if (t_bor [] (t_eq (d_ix (d_var (pv 0)) (d_int pe_int)) (d_int pe_int) hr))
  (s_cons (s_set (i := 4) sc_law_take.nd rfl (Or.inl rfl) (by decide) (e_of (d_int pe_int)))
  (s_cons (s_if (t_bor [] (t_lt (d_ix (d_var (pv 0)) (d_int pe_int)) (b_len T.n_len (a_cons (d_ix (d_var (pv 0)) (d_int pe_int)) a_nil))))
  (s_one (s_set (i := 4) sc_law_take.nd rfl (Or.inl rfl) (by decide) (e_of (d_of (e_bor [] (e_of (d_ix (d_ix (d_var (pv 0)) (d_int pe_int)) (d_ix (d_var (pv 0)) (d_int pe_int)))))))))
  s_nil)
  (s_cons (s_augIx ip_add (pv 0) (d_int pe_int) (d_int pe_int))
  (s_cons (s_if (t_ge (d_var (pv 4)) (d_int pe_int))
  (s_one (s_setIx (pv 0) (d_int pe_int) (e_of (d_var (pv 4)))))
  s_nil)
  (s_one (s_setIx (pv 0) (d_int pe_int) (e_bor [] (e_of (d_mod (d_add (d_add (d_mul (d_ix (d_var (pv 0)) (d_int pe_int)) (d_int pe_int)) (d_mod (d_var (pv 4)) (d_int pe_int))) (d_mul (d_int pe_int) (d_ix (d_var (pv 0)) (d_int pe_int)))) (d_int pe_int))))))))))
  s_nil)
  (s_cons (s_if (t_bor [] (t_gt (d_ix (d_var (pv 0)) (d_int pe_int)) (d_int pe_int)))
  (s_cons (s_set (i := 5) sc_law_take.nd rfl (Or.inl rfl) (by decide) (e_of (d_of (e_bor [] (e_of (d_mod (d_ix (d_var (pv 0)) (d_int pe_int)) (d_var (pv 1))))))))
  (s_cons (s_setIx (pv 0) (d_int pe_int) (e_bor [] (e_of (d_div (d_ix (d_var (pv 0)) (d_int pe_int)) (d_var (pv 1))))))
  (s_one (s_ret (e_of (d_var (pv 5)))))))
  s_nil)
  (s_cons (s_set (i := 2) sc_law_take.nd rfl (Or.inl rfl) (by decide) (e_of (d_of (e_bor [] (e_of (d_mod (d_mul (d_add (d_ix (d_var (pv 0)) (d_int pe_int)) (d_int pe_int)) (d_int pe_int)) (d_int pe_int)))))))
  (s_cons (s_set (i := 3) sc_law_take.nd rfl (Or.inl rfl) (by decide) (e_of (d_mod (d_mul (d_mod (d_mul (d_var (pv 2)) (d_var (pv 2))) (d_int pe_int)) (d_int pe_int)) (d_int pe_int))))
  (s_cons (s_if (t_gt (d_var (pv 1)) (d_int pe_int))
  (s_one (s_ret (e_of (d_mod (d_add (d_mul (d_var (pv 3)) (d_int pe_int)) (d_var (pv 2))) (d_var (pv 1))))))
  s_nil)
  (s_one (s_ret (e_of (d_mod (d_div (d_var (pv 3)) (d_int pe_int)) (d_var (pv 1)))))))))))
theorem bi_law_alike (T : Facts K mg) : L2.Binds K T.d_law_alike ["_law_found", "_law_due"] [] := T.F_law_alike.bindsN fun _ _ _ _ _ _ us hl => match us, hl with | [_, _], _ => rfl
theorem ok_law_alike (T : Facts K mg) : FnG P w K mg base CX0 1 T.a_law_alike T.d_law_alike ["_law_found", "_law_due"] (spF ⟨K, mg⟩ 2 [] f_law_alike) := by
  exact ok_fn (ws := []) (ios := []) T.F_law_alike sc_law_alike (by decide) fun cdv A outer s H E hr gd =>
  (s_one (s_ret (e_of (d_and (d_eq (d_var (pv 0)) (d_var (pv 1)) hr) (d_one (d_eq (b_repr gd hr T.n_repr (a_cons (d_var (pv 0)) a_nil)) (b_repr gd hr T.n_repr (a_cons (d_var (pv 1)) a_nil)) hr))))))
theorem bi_law_whole (T : Facts K mg) : L2.Binds K T.d_law_whole ["_law_thing"] [] := T.F_law_whole.bindsN fun _ _ _ _ _ _ us hl => match us, hl with | [_], _ => rfl
theorem ok_law_whole (T : Facts K mg) : FnG P w K mg base CX0 1 T.a_law_whole T.d_law_whole ["_law_thing"] (spF ⟨K, mg⟩ 1 [] f_law_whole) := by
  exact ok_fn (ws := []) (ios := []) T.F_law_whole sc_law_whole (by decide) fun cdv A outer s H E hr gd =>
  (s_one (s_ret (e_of (d_and (b_isa T.n_isinstance (a_cons (d_var (pv 0)) (a_cons (d_ty (pe_bltn rfl T.n_int (by decide +kernel) rfl)) a_nil))) (d_one (d_not (b_isa T.n_isinstance (a_cons (d_var (pv 0)) (a_cons (d_ty (pe_bltn rfl T.n_bool (by decide +kernel) rfl)) a_nil)))))))))
theorem bi_is_between (T : Facts K mg) : L2.Binds K T.d_is_between ["thing", "least", "most"] [] := T.F_is_between.bindsN fun _ _ _ _ _ _ us hl => match us, hl with | [_, _, _], _ => rfl
theorem ok_is_between (T : Facts K mg) : FnG P w K mg base CX0 2 T.a_is_between T.d_is_between ["thing", "least", "most"] (spF ⟨K, mg⟩ 3 [] f_is_between) := by
  have G_is_integer := ok_is_integer (P := P) (w := w) (base := base) T
  have B_is_integer := bi_is_integer T
  exact ok_fn (ws := []) (ios := []) T.F_is_between sc_is_between (by decide) fun cdv A outer s H E hr gd =>
  (s_one (s_ret (e_of (d_and (d_of (e_call G_is_integer (hr.mono (by decide)) gd T.m_is_integer T.F_is_integer.kp B_is_integer (ai_cons (ei_val (e_of (d_var (pv 0)))) ai_nil) (ss := []))) (d_one (d_chainle_le (d_var (pv 1)) (d_var (pv 0)) (d_var (pv 2))))))))
theorem bi_law_size (T : Facts K mg) : L2.Binds K T.d_law_size ["_law_bag_here", "_law_way"] [] := T.F_law_size.bindsN fun _ _ _ _ _ _ us hl => match us, hl with | [_, _], _ => rfl
theorem ok_law_size (T : Facts K mg) : FnG P w K mg base CX0 2 T.a_law_size T.d_law_size ["_law_bag_here", "_law_way"] (spF ⟨K, mg⟩ 2 [0] f_law_size) := by
  have G_law_take := ok_law_take (P := P) (w := w) (base := base) T
  have B_law_take := bi_law_take T
  exact ok_fn (ws := []) (ios := [0]) T.F_law_size sc_law_size (by decide) fun cdv A outer s H E hr gd =>
  (s_cons (s_if (t_eq (d_var (pv 1)) (d_int pe_int) hr)
  (s_one (s_ret (e_of (d_int pe_int))))
  s_nil)
  (s_cons (s_if (t_eq (d_var (pv 1)) (d_int pe_int) hr)
  (s_one (s_ret (e_call G_law_take (hr.mono (by decide)) gd T.m_law_take T.F_law_take.kp B_law_take (ai_cons (ei_io (pv 0)) (ai_cons (ei_val (e_of (d_int pe_int))) ai_nil)) (ss := [some 0]))))
  s_nil)
  (s_cons (s_if (t_eq (d_var (pv 1)) (d_int pe_int) hr)
  (s_one (s_ret (e_of (d_ix (d_lst (a_cons (d_int pe_int) (a_cons (d_int pe_int) (a_cons (d_add (d_int pe_int) (d_of (e_call G_law_take (hr.mono (by decide)) gd T.m_law_take T.F_law_take.kp B_law_take (ai_cons (ei_io (pv 0)) (ai_cons (ei_val (e_of (d_int pe_int))) ai_nil)) (ss := [some 0])))) a_nil)))) (d_of (e_call G_law_take (hr.mono (by decide)) gd T.m_law_take T.F_law_take.kp B_law_take (ai_cons (ei_io (pv 0)) (ai_cons (ei_val (e_of (d_int pe_int))) ai_nil)) (ss := [some 0])))))))
  s_nil)
  (s_cons (s_if (t_eq (d_var (pv 1)) (d_int pe_int) hr)
  (s_one (s_ret (e_call G_law_take (hr.mono (by decide)) gd T.m_law_take T.F_law_take.kp B_law_take (ai_cons (ei_io (pv 0)) (ai_cons (ei_val (e_of (d_int pe_int))) ai_nil)) (ss := [some 0]))))
  s_nil)
  (s_one (s_ret (e_of (d_ix (d_lst (a_cons (d_pow (d_int pe_int) (d_int pe_int)) (a_cons (d_of (e_call G_law_take (hr.mono (by decide)) gd T.m_law_take T.F_law_take.kp B_law_take (ai_cons (ei_io (pv 0)) (ai_cons (ei_val (e_of (d_add (d_pow (d_int pe_int) (d_int pe_int)) (d_int pe_int)))) ai_nil)) (ss := [some 0]))) (a_cons (d_sub (d_pow (d_int pe_int) (d_int pe_int)) (d_of (e_call G_law_take (hr.mono (by decide)) gd T.m_law_take T.F_law_take.kp B_law_take (ai_cons (ei_io (pv 0)) (ai_cons (ei_val (e_of (d_int pe_int))) ai_nil)) (ss := [some 0])))) a_nil)))) (d_of (e_call G_law_take (hr.mono (by decide)) gd T.m_law_take T.F_law_take.kp B_law_take (ai_cons (ei_io (pv 0)) (ai_cons (ei_val (e_of (d_int pe_int))) ai_nil)) (ss := [some 0])))))))))))
theorem bi_law_vast (T : Facts K mg) : L2.Binds K T.d_law_vast ["_law_bag_here"] [] := T.F_law_vast.bindsN fun _ _ _ _ _ _ us hl => match us, hl with | [_], _ => rfl
theorem ok_law_vast (T : Facts K mg) : FnG P w K mg base CX0 2 T.a_law_vast T.d_law_vast ["_law_bag_here"] (spF ⟨K, mg⟩ 1 [0] f_law_vast) := by
  have G_law_take := ok_law_take (P := P) (w := w) (base := base) T
  have B_law_take := bi_law_take T
  exact ok_fn (ws := [1, 2]) (ios := [0]) T.F_law_vast sc_law_vast (by decide) fun cdv A outer s H E hr gd =>
  (s_cons (s_if (t_eq (d_of (e_call G_law_take (hr.mono (by decide)) gd T.m_law_take T.F_law_take.kp B_law_take (ai_cons (ei_io (pv 0)) (ai_cons (ei_val (e_of (d_int pe_int))) ai_nil)) (ss := [some 0]))) (d_int pe_int) hr)
  (s_one (s_ret (e_mul (d_lst (a_cons (d_of (e_call G_law_take (hr.mono (by decide)) gd T.m_law_take T.F_law_take.kp B_law_take (ai_cons (ei_io (pv 0)) (ai_cons (ei_val (e_of (d_int pe_int))) ai_nil)) (ss := [some 0]))) a_nil)) (d_int pe_int))))
  s_nil)
  (s_cons (s_set (i := 1) sc_law_vast.nd rfl (Or.inl rfl) (by decide) (e_of (d_of (e_lst ea_nil))))
  (s_cons (s_for PassesOwn.never rfl (i_range1 T.n_range (a_cons (d_int pe_int) a_nil)) (g_name sc_law_vast.nd rfl (Or.inl rfl) (by decide))
  (s_one (s_set (i := 1) sc_law_vast.nd rfl (Or.inl rfl) (by decide) (e_of (d_of (e_lst (ea_cons (e_of (d_var (pv 1))) ea_nil)))))))
  (s_one (s_ret (e_of (d_var (pv 1))))))))
theorem bi_law_is_entry (T : Facts K mg) : L2.Binds K T.d_law_is_entry ["_law_thing", "_law_width"] [] := T.F_law_is_entry.bindsN fun _ _ _ _ _ _ us hl => match us, hl with | [_, _], _ => rfl
theorem ok_law_is_entry (T : Facts K mg) : FnG P w K mg base CX0 2 T.a_law_is_entry T.d_law_is_entry ["_law_thing", "_law_width"] (spF ⟨K, mg⟩ 2 [] f_law_is_entry) := by
  have G_law_whole := ok_law_whole (P := P) (w := w) (base := base) T
  have B_law_whole := bi_law_whole T
  exact ok_fn (ws := []) (ios := []) T.F_law_is_entry sc_law_is_entry (by decide) fun cdv A outer s H E hr gd =>
  (s_cons (s_if (t_pw (t_or (t_not (t_val (b_isa T.n_isinstance (a_cons (d_var (pv 0)) (a_cons (d_ty (pe_bltn rfl T.n_tuple (by decide +kernel) rfl)) a_nil))))) (t_or1 (t_ne (b_len T.n_len (a_cons (d_var (pv 0)) a_nil)) (d_var (pv 1)) hr))))
  (s_one (s_ret (e_of (d_bl pe_bl))))
  s_nil)
  (s_one (s_ret (e_of (b_all rfl T.n_all (a_cons (d_of (e_comp (own := [("_law_size_here", 2)]) rfl sc_law_is_entry.nd (i_seq (d_var (pv 0))) (blkOk_by (N := N_law_is_entry) (sc := defScope s_law_is_entry) (by decide +kernel)) (fun _ _ _ _ _ => (g_name sc_law_is_entry.nd rfl (Or.inl rfl) (by decide))) (fun _ _ _ _ _ => ts_nil) (fun _ _ _ _ _ => (e_of (d_and (d_of (e_call G_law_whole (hr.mono (by decide)) gd T.m_law_whole T.F_law_whole.kp B_law_whole (ai_cons (ei_val (e_of (d_var (pv 2)))) ai_nil) (ss := []))) (d_one (d_chainle_le (d_int pe_int) (d_var (pv 2)) (d_pow (d_int pe_int) (d_int pe_int))))))))) a_nil))))))
theorem bi_law_is_tier (T : Facts K mg) : L2.Binds K T.d_law_is_tier ["_law_thing", "_law_width"] [] := T.F_law_is_tier.bindsN fun _ _ _ _ _ _ us hl => match us, hl with | [_, _], _ => rfl
theorem ok_law_is_tier (T : Facts K mg) : FnG P w K mg base CX0 2 T.a_law_is_tier T.d_law_is_tier ["_law_thing", "_law_width"] (spF ⟨K, mg⟩ 2 [] f_law_is_tier) := by
  have G_law_whole := ok_law_whole (P := P) (w := w) (base := base) T
  have B_law_whole := bi_law_whole T
  exact ok_fn (ws := []) (ios := []) T.F_law_is_tier sc_law_is_tier (by decide) fun cdv A outer s H E hr gd =>
  (s_cons (s_if (t_pw (t_or (t_not (t_val (b_isa T.n_isinstance (a_cons (d_var (pv 0)) (a_cons (d_ty (pe_bltn rfl T.n_tuple (by decide +kernel) rfl)) a_nil))))) (t_or (t_ne (b_len T.n_len (a_cons (d_var (pv 0)) a_nil)) (d_int pe_int) hr) (t_or (t_not (t_val (d_of (e_call G_law_whole (hr.mono (by decide)) gd T.m_law_whole T.F_law_whole.kp B_law_whole (ai_cons (ei_val (e_of (d_ix (d_var (pv 0)) (d_int pe_int)))) ai_nil) (ss := []))))) (t_or1 (t_not (t_val (d_of (e_call G_law_whole (hr.mono (by decide)) gd T.m_law_whole T.F_law_whole.kp B_law_whole (ai_cons (ei_val (e_of (d_ix (d_var (pv 0)) (d_int pe_int)))) ai_nil) (ss := []))))))))))
  (s_one (s_ret (e_of (d_bl pe_bl))))
  s_nil)
  (s_one (s_ret (e_of (d_and (d_chainle_lt (d_int pe_int) (d_ix (d_var (pv 0)) (d_int pe_int)) (d_var (pv 1))) (d_one (d_chainle_le (d_int pe_int) (d_ix (d_var (pv 0)) (d_int pe_int)) (d_pow (d_int pe_int) (d_int pe_int)))))))))
theorem bi_law_odd (T : Facts K mg) : L2.Binds K T.d_law_odd ["_law_bag_here"] [] := T.F_law_odd.bindsN fun _ _ _ _ _ _ us hl => match us, hl with | [_], _ => rfl
theorem ok_law_odd (T : Facts K mg) : FnG P w K mg base CX0 2 T.a_law_odd T.d_law_odd ["_law_bag_here"] (spF ⟨K, mg⟩ 1 [0] f_law_odd) := by
  have G_law_take := ok_law_take (P := P) (w := w) (base := base) T
  have B_law_take := bi_law_take T
  exact ok_fn (ws := [1, 2]) (ios := [0]) T.F_law_odd sc_law_odd (by decide) fun cdv A outer s H E hr gd =>
  (s_cons (s_set (i := 1) sc_law_odd.nd rfl (Or.inl rfl) (by decide) (e_of (d_pow (d_int pe_int) (d_int pe_int))))
  (s_cons (s_set (i := 2) sc_law_odd.nd rfl (Or.inl rfl) (by decide) (e_of (d_of (e_lst (ea_cons (e_of (d_int pe_int)) (ea_cons (e_of (d_int pe_int)) (ea_cons (e_of (d_neg (d_int pe_int))) (ea_cons (e_of (d_var (pv 1))) (ea_cons (e_of (d_add (d_var (pv 1)) (d_int pe_int))) (ea_cons (e_of (d_sub (d_var (pv 1)) (d_int pe_int))) (ea_cons (e_of (d_neg (d_var (pv 1)))) (ea_cons (e_of (d_pow (d_int pe_int) (d_int pe_int))) (ea_cons (e_of (d_neg (d_pow (d_int pe_int) (d_int pe_int)))) (ea_cons (e_call G_law_take (hr.mono (by decide)) gd T.m_law_take T.F_law_take.kp B_law_take (ai_cons (ei_io (pv 0)) (ai_cons (ei_val (e_of (d_int pe_int))) ai_nil)) (ss := [some 0])) (ea_cons (e_of (d_bl pe_bl)) (ea_cons (e_of (d_bl pe_bl)) (ea_cons (e_of (d_non pe_non)) (ea_cons (e_of (d_str pe_str)) ea_nil))))))))))))))))))
  (s_cons (s_set (i := 2) sc_law_odd.nd rfl (Or.inl rfl) (by decide) (e_of (d_of (e_add (d_var (pv 2)) (d_lst (a_cons (d_str pe_str) (a_cons (d_tup a_nil) (a_cons (d_tup (a_cons (d_int pe_int) a_nil)) (a_cons (d_tup (a_cons (d_int pe_int) (a_cons (d_int pe_int) a_nil))) (a_cons (d_lst (a_cons (d_int pe_int) a_nil)) (a_cons (d_lst a_nil) (a_cons (d_of e_dnew) (a_cons (d_of (e_disp1 (d_int pe_int) (e_of (d_int pe_int)))) (a_cons (d_tup (a_cons (d_tup (a_cons (d_int pe_int) a_nil)) a_nil)) (a_cons (d_lst (a_cons (d_tup (a_cons (d_int pe_int) a_nil)) a_nil)) (a_cons (d_str pe_str) a_nil))))))))))))))))
  (s_one (s_ret (e_of (d_ix (d_var (pv 2)) (d_of (e_call G_law_take (hr.mono (by decide)) gd T.m_law_take T.F_law_take.kp B_law_take (ai_cons (ei_io (pv 0)) (ai_cons (ei_val (e_of (d_int pe_int))) ai_nil)) (ss := [some 0]))))))))))
theorem bi_is_size (T : Facts K mg) : L2.Binds K T.d_is_size ["thing"] [] := T.F_is_size.bindsN fun _ _ _ _ _ _ us hl => match us, hl with | [_], _ => rfl
theorem ok_is_size (T : Facts K mg) : FnG P w K mg base CX0 3 T.a_is_size T.d_is_size ["thing"] (spF ⟨K, mg⟩ 1 [] f_is_size) := by
  have G_is_between := ok_is_between (P := P) (w := w) (base := base) T
  have B_is_between := bi_is_between T
  exact ok_fn (ws := []) (ios := []) T.F_is_size sc_is_size (by decide) fun cdv A outer s H E hr gd =>
  (s_one (s_ret (e_call G_is_between (hr.mono (by decide)) gd T.m_is_between T.F_is_between.kp B_is_between (ai_cons (ei_val (e_of (d_var (pv 0)))) (ai_cons (ei_val (e_of (d_int pe_int))) (ai_cons (ei_val (e_of (d_int (pe_glob rfl T.c_GREATEST ⟨_, rfl⟩)))) ai_nil))) (ss := []))))
theorem bi_law_is_log (T : Facts K mg) : L2.Binds K T.d_law_is_log ["_law_thing", "_law_width"] [] := T.F_law_is_log.bindsN fun _ _ _ _ _ _ us hl => match us, hl with | [_, _], _ => rfl
theorem ok_law_is_log (T : Facts K mg) : FnG P w K mg base CX0 3 T.a_law_is_log T.d_law_is_log ["_law_thing", "_law_width"] (spF ⟨K, mg⟩ 2 [] f_law_is_log) := by
  have G_law_is_entry := ok_law_is_entry (P := P) (w := w) (base := base) T
  have B_law_is_entry := bi_law_is_entry T
  exact ok_fn (ws := []) (ios := []) T.F_law_is_log sc_law_is_log (by decide) fun cdv A outer s H E hr gd =>
  (s_cons (s_if (t_pw (t_or (t_not (t_val (b_isa T.n_isinstance (a_cons (d_var (pv 0)) (a_cons (d_ty (pe_bltn rfl T.n_list (by decide +kernel) rfl)) a_nil))))) (t_or1 (t_gt (b_len T.n_len (a_cons (d_var (pv 0)) a_nil)) (d_int pe_int)))))
  (s_one (s_ret (e_of (d_bl pe_bl))))
  s_nil)
  (s_one (s_ret (e_of (b_all rfl T.n_all (a_cons (d_of (e_comp (own := [("_law_entry", 2)]) rfl sc_law_is_log.nd (i_seq (d_var (pv 0))) (blkOk_by (N := N_law_is_log) (sc := defScope s_law_is_log) (by decide +kernel)) (fun _ _ _ _ _ => (g_name sc_law_is_log.nd rfl (Or.inl rfl) (by decide))) (fun _ _ _ _ _ => ts_nil) (fun _ _ _ _ _ => (e_call G_law_is_entry (hr.mono (by decide)) gd T.m_law_is_entry T.F_law_is_entry.kp B_law_is_entry (ai_cons (ei_val (e_of (d_var (pv 2)))) (ai_cons (ei_val (e_of (d_var (pv 1)))) ai_nil)) (ss := []))))) a_nil))))))
theorem bi_law_are_tiers (T : Facts K mg) : L2.Binds K T.d_law_are_tiers ["_law_thing", "_law_width"] [] := T.F_law_are_tiers.bindsN fun _ _ _ _ _ _ us hl => match us, hl with | [_, _], _ => rfl
theorem ok_law_are_tiers (T : Facts K mg) : FnG P w K mg base CX0 3 T.a_law_are_tiers T.d_law_are_tiers ["_law_thing", "_law_width"] (spF ⟨K, mg⟩ 2 [] f_law_are_tiers) := by
  have G_law_is_tier := ok_law_is_tier (P := P) (w := w) (base := base) T
  have B_law_is_tier := bi_law_is_tier T
  exact ok_fn (ws := []) (ios := []) T.F_law_are_tiers sc_law_are_tiers (by decide) fun cdv A outer s H E hr gd =>
  (s_cons (s_if (t_pw (t_or (t_not (t_val (b_isa T.n_isinstance (a_cons (d_var (pv 0)) (a_cons (d_ty (pe_bltn rfl T.n_list (by decide +kernel) rfl)) a_nil))))) (t_or1 (t_not (t_chainle_le (d_int pe_int) (b_len T.n_len (a_cons (d_var (pv 0)) a_nil)) (d_int pe_int))))))
  (s_one (s_ret (e_of (d_bl pe_bl))))
  s_nil)
  (s_one (s_ret (e_of (b_all rfl T.n_all (a_cons (d_of (e_comp (own := [("_law_tier", 2)]) rfl sc_law_are_tiers.nd (i_seq (d_var (pv 0))) (blkOk_by (N := N_law_are_tiers) (sc := defScope s_law_are_tiers) (by decide +kernel)) (fun _ _ _ _ _ => (g_name sc_law_are_tiers.nd rfl (Or.inl rfl) (by decide))) (fun _ _ _ _ _ => ts_nil) (fun _ _ _ _ _ => (e_call G_law_is_tier (hr.mono (by decide)) gd T.m_law_is_tier T.F_law_is_tier.kp B_law_is_tier (ai_cons (ei_val (e_of (d_var (pv 2)))) (ai_cons (ei_val (e_of (d_var (pv 1)))) ai_nil)) (ss := []))))) a_nil))))))
theorem bi_law_bent (T : Facts K mg) : L2.Binds K T.d_law_bent ["_law_bag_here", "_law_thing"] [] := T.F_law_bent.bindsN fun _ _ _ _ _ _ us hl => match us, hl with | [_, _], _ => rfl
theorem ok_law_bent (T : Facts K mg) : FnG P w K mg base CX0 3 T.a_law_bent T.d_law_bent ["_law_bag_here", "_law_thing"] (spF ⟨K, mg⟩ 2 [0] f_law_bent) := by
  have G_law_odd := ok_law_odd (P := P) (w := w) (base := base) T
  have B_law_odd := bi_law_odd T
  have G_law_take := ok_law_take (P := P) (w := w) (base := base) T
  have B_law_take := bi_law_take T
  exact ok_fn (ws := [2, 3, 4]) (ios := [0]) T.F_law_bent sc_law_bent (by decide) fun cdv A outer s H E hr gd =>
  (s_cons (s_set (i := 2) sc_law_bent.nd rfl (Or.inl rfl) (by decide) (e_of (d_of (e_call G_law_take (hr.mono (by decide)) gd T.m_law_take T.F_law_take.kp B_law_take (ai_cons (ei_io (pv 0)) (ai_cons (ei_val (e_of (d_int pe_int))) ai_nil)) (ss := [some 0])))))
  (s_cons (s_set (i := 3) sc_law_bent.nd rfl (Or.inl rfl) (by decide) (e_of (d_of (e_list T.n_list (a_cons (d_var (pv 1)) a_nil)))))
  (s_cons (s_set (i := 4) sc_law_bent.nd rfl (Or.inl rfl) (by decide) (e_of (d_of (e_call G_law_take (hr.mono (by decide)) gd T.m_law_take T.F_law_take.kp B_law_take (ai_cons (ei_io (pv 0)) (ai_cons (ei_val (e_of (d_add (b_len T.n_len (a_cons (d_var (pv 3)) a_nil)) (d_int pe_int)))) ai_nil)) (ss := [some 0])))))
  (s_cons (s_if (t_eq (d_var (pv 2)) (d_int pe_int) hr)
  (s_one (s_ret (e_of (d_if (t_val (b_isa T.n_isinstance (a_cons (d_var (pv 1)) (a_cons (d_ty (pe_bltn rfl T.n_tuple (by decide +kernel) rfl)) a_nil)))) (d_var (pv 3)) (b_tuple T.n_tuple (a_cons (d_var (pv 3)) a_nil))))))
  s_nil)
  (s_cons (s_if (t_eq (d_var (pv 2)) (d_int pe_int) hr)
  (s_one (s_set (i := 3) sc_law_bent.nd rfl (Or.inl rfl) (by decide) (e_of (d_add (d_sl (d_var (pv 3)) o_none (o_some (d_var (pv 4)))) (d_sl (d_var (pv 3)) (o_some (d_add (d_var (pv 4)) (d_int pe_int))) o_none)))))
  (s_one (s_if (t_eq (d_var (pv 2)) (d_int pe_int) hr)
  (s_one (s_set (i := 3) sc_law_bent.nd rfl (Or.inl rfl) (by decide) (e_of (d_of (e_add (d_add (d_sl (d_var (pv 3)) o_none (o_some (d_var (pv 4)))) (d_lst (a_cons (d_of (e_call G_law_odd (hr.mono (by decide)) gd T.m_law_odd T.F_law_odd.kp B_law_odd (ai_cons (ei_io (pv 0)) ai_nil) (ss := [some 0]))) a_nil))) (d_sl (d_var (pv 3)) (o_some (d_var (pv 4))) o_none))))))
  (s_one (s_if (t_lt (d_var (pv 4)) (b_len T.n_len (a_cons (d_var (pv 3)) a_nil)))
  (s_one (s_set (i := 3) sc_law_bent.nd rfl (Or.inl rfl) (by decide) (e_of (d_of (e_add (d_add (d_sl (d_var (pv 3)) o_none (o_some (d_var (pv 4)))) (d_lst (a_cons (d_of (e_call G_law_odd (hr.mono (by decide)) gd T.m_law_odd T.F_law_odd.kp B_law_odd (ai_cons (ei_io (pv 0)) ai_nil) (ss := [some 0]))) a_nil))) (d_sl (d_var (pv 3)) (o_some (d_add (d_var (pv 4)) (d_int pe_int))) o_none))))))
  s_nil)))))
  (s_one (s_ret (e_of (d_if (t_val (b_isa T.n_isinstance (a_cons (d_var (pv 1)) (a_cons (d_ty (pe_bltn rfl T.n_tuple (by decide +kernel) rfl)) a_nil)))) (b_tuple T.n_tuple (a_cons (d_var (pv 3)) a_nil)) (d_var (pv 3)))))))))))
theorem bi_is_entry (T : Facts K mg) : L2.Binds K T.d_is_entry ["thing", "width"] [] := T.F_is_entry.bindsN fun _ _ _ _ _ _ us hl => match us, hl with | [_, _], _ => rfl
theorem ok_is_entry (T : Facts K mg) : FnG P w K mg base CX0 4 T.a_is_entry T.d_is_entry ["thing", "width"] (spF ⟨K, mg⟩ 2 [] f_is_entry) := by
  have G_is_size := ok_is_size (P := P) (w := w) (base := base) T
  have B_is_size := bi_is_size T
  exact ok_fn (ws := []) (ios := []) T.F_is_entry sc_is_entry (by decide) fun cdv A outer s H E hr gd =>
  (s_one (s_ret (e_of (d_and (b_isa T.n_isinstance (a_cons (d_var (pv 0)) (a_cons (d_ty (pe_bltn rfl T.n_tuple (by decide +kernel) rfl)) a_nil))) (d_and (d_eq (b_len T.n_len (a_cons (d_var (pv 0)) a_nil)) (d_var (pv 1)) hr) (d_one (b_all rfl T.n_all (a_cons (d_of (e_comp (own := [("size", 2)]) rfl sc_is_entry.nd (i_seq (d_var (pv 0))) (blkOk_by (N := N_is_entry) (sc := defScope s_is_entry) (by decide +kernel)) (fun _ _ _ _ _ => (g_name sc_is_entry.nd rfl (Or.inl rfl) (by decide))) (fun _ _ _ _ _ => ts_nil) (fun _ _ _ _ _ => (e_call G_is_size (hr.mono (by decide)) gd T.m_is_size T.F_is_size.kp B_is_size (ai_cons (ei_val (e_of (d_var (pv 2)))) ai_nil) (ss := []))))) a_nil))))))))
theorem bi_is_tier (T : Facts K mg) : L2.Binds K T.d_is_tier ["thing", "width"] [] := T.F_is_tier.bindsN fun _ _ _ _ _ _ us hl => match us, hl with | [_, _], _ => rfl
theorem ok_is_tier (T : Facts K mg) : FnG P w K mg base CX0 4 T.a_is_tier T.d_is_tier ["thing", "width"] (spF ⟨K, mg⟩ 2 [] f_is_tier) := by
  have G_is_between := ok_is_between (P := P) (w := w) (base := base) T
  have B_is_between := bi_is_between T
  have G_is_size := ok_is_size (P := P) (w := w) (base := base) T
  have B_is_size := bi_is_size T
  exact ok_fn (ws := []) (ios := []) T.F_is_tier sc_is_tier (by decide) fun cdv A outer s H E hr gd =>
  (s_cons (s_if (t_pw (t_or (t_not (t_val (b_isa T.n_isinstance (a_cons (d_var (pv 0)) (a_cons (d_ty (pe_bltn rfl T.n_tuple (by decide +kernel) rfl)) a_nil))))) (t_or1 (t_ne (b_len T.n_len (a_cons (d_var (pv 0)) a_nil)) (d_int pe_int) hr))))
  (s_one (s_ret (e_of (d_bl pe_bl))))
  s_nil)
  (s_one (s_ret (e_of (d_and (d_of (e_call G_is_between (hr.mono (by decide)) gd T.m_is_between T.F_is_between.kp B_is_between (ai_cons (ei_val (e_of (d_ix (d_var (pv 0)) (d_int pe_int)))) (ai_cons (ei_val (e_of (d_int pe_int))) (ai_cons (ei_val (e_of (d_sub (d_var (pv 1)) (d_int pe_int)))) ai_nil))) (ss := []))) (d_one (d_of (e_call G_is_size (hr.mono (by decide)) gd T.m_is_size T.F_is_size.kp B_is_size (ai_cons (ei_val (e_of (d_ix (d_var (pv 0)) (d_int pe_int)))) ai_nil) (ss := [])))))))))
theorem bi_law_deep_bent (T : Facts K mg) : L2.Binds K T.d_law_deep_bent ["_law_bag_here", "_law_thing"] [] := T.F_law_deep_bent.bindsN fun _ _ _ _ _ _ us hl => match us, hl with | [_, _], _ => rfl
theorem ok_law_deep_bent (T : Facts K mg) : FnG P w K mg base CX0 4 T.a_law_deep_bent T.d_law_deep_bent ["_law_bag_here", "_law_thing"] (spF ⟨K, mg⟩ 2 [0] f_law_deep_bent) := by
  have G_law_bent := ok_law_bent (P := P) (w := w) (base := base) T
  have B_law_bent := bi_law_bent T
  have G_law_take := ok_law_take (P := P) (w := w) (base := base) T
  have B_law_take := bi_law_take T
  exact ok_fn (ws := [2]) (ios := [0]) T.F_law_deep_bent sc_law_deep_bent (by decide) fun cdv A outer s H E hr gd =>
  (s_cons (s_if (t_pw (t_or (t_eq (d_var (pv 1)) (d_lst a_nil) hr) (t_or1 (t_eq (d_of (e_call G_law_take (hr.mono (by decide)) gd T.m_law_take T.F_law_take.kp B_law_take (ai_cons (ei_io (pv 0)) (ai_cons (ei_val (e_of (d_int pe_int))) ai_nil)) (ss := [some 0]))) (d_int pe_int) hr))))
  (s_one (s_ret (e_call G_law_bent (hr.mono (by decide)) gd T.m_law_bent T.F_law_bent.kp B_law_bent (ai_cons (ei_io (pv 0)) (ai_cons (ei_val (e_of (d_var (pv 1)))) ai_nil)) (ss := [some 0]))))
  s_nil)
  (s_cons (s_set (i := 2) sc_law_deep_bent.nd rfl (Or.inl rfl) (by decide) (e_of (d_of (e_call G_law_take (hr.mono (by decide)) gd T.m_law_take T.F_law_take.kp B_law_take (ai_cons (ei_io (pv 0)) (ai_cons (ei_val (e_of (b_len T.n_len (a_cons (d_var (pv 1)) a_nil)))) ai_nil)) (ss := [some 0])))))
  (s_one (s_ret (e_add (d_add (d_sl (d_var (pv 1)) o_none (o_some (d_var (pv 2)))) (d_lst (a_cons (d_of (e_call G_law_bent (hr.mono (by decide)) gd T.m_law_bent T.F_law_bent.kp B_law_bent (ai_cons (ei_io (pv 0)) (ai_cons (ei_val (e_of (d_ix (d_var (pv 1)) (d_var (pv 2))))) ai_nil)) (ss := [some 0]))) a_nil))) (d_sl (d_var (pv 1)) (o_some (d_add (d_var (pv 2)) (d_int pe_int))) o_none))))))
theorem bi_are_entries (T : Facts K mg) : L2.Binds K T.d_are_entries ["thing", "width", "most"] [] := T.F_are_entries.bindsN fun _ _ _ _ _ _ us hl => match us, hl with | [_, _, _], _ => rfl
theorem ok_are_entries (T : Facts K mg) : FnG P w K mg base CX0 5 T.a_are_entries T.d_are_entries ["thing", "width", "most"] (spF ⟨K, mg⟩ 3 [] f_are_entries) := by
  have G_is_entry := ok_is_entry (P := P) (w := w) (base := base) T
  have B_is_entry := bi_is_entry T
  exact ok_fn (ws := []) (ios := []) T.F_are_entries sc_are_entries (by decide) fun cdv A outer s H E hr gd =>
  (s_cons (s_if (t_pw (t_or (t_not (t_val (b_isa T.n_isinstance (a_cons (d_var (pv 0)) (a_cons (d_ty (pe_bltn rfl T.n_list (by decide +kernel) rfl)) a_nil))))) (t_or1 (t_gt (b_len T.n_len (a_cons (d_var (pv 0)) a_nil)) (d_var (pv 2))))))
  (s_one (s_ret (e_of (d_bl pe_bl))))
  s_nil)
  (s_one (s_ret (e_of (b_all rfl T.n_all (a_cons (d_of (e_comp (own := [("entry", 3)]) rfl sc_are_entries.nd (i_seq (d_var (pv 0))) (blkOk_by (N := N_are_entries) (sc := defScope s_are_entries) (by decide +kernel)) (fun _ _ _ _ _ => (g_name sc_are_entries.nd rfl (Or.inl rfl) (by decide))) (fun _ _ _ _ _ => ts_nil) (fun _ _ _ _ _ => (e_call G_is_entry (hr.mono (by decide)) gd T.m_is_entry T.F_is_entry.kp B_is_entry (ai_cons (ei_val (e_of (d_var (pv 3)))) (ai_cons (ei_val (e_of (d_var (pv 1)))) ai_nil)) (ss := []))))) a_nil))))))
theorem bi_are_tiers (T : Facts K mg) : L2.Binds K T.d_are_tiers ["thing", "width"] [] := T.F_are_tiers.bindsN fun _ _ _ _ _ _ us hl => match us, hl with | [_, _], _ => rfl
theorem ok_are_tiers (T : Facts K mg) : FnG P w K mg base CX0 5 T.a_are_tiers T.d_are_tiers ["thing", "width"] (spF ⟨K, mg⟩ 2 [] f_are_tiers) := by
  have G_is_tier := ok_is_tier (P := P) (w := w) (base := base) T
  have B_is_tier := bi_is_tier T
  exact ok_fn (ws := []) (ios := []) T.F_are_tiers sc_are_tiers (by decide) fun cdv A outer s H E hr gd =>
  (s_cons (s_if (t_pw (t_or (t_not (t_val (b_isa T.n_isinstance (a_cons (d_var (pv 0)) (a_cons (d_ty (pe_bltn rfl T.n_list (by decide +kernel) rfl)) a_nil))))) (t_or1 (t_not (t_chainle_le (d_int pe_int) (b_len T.n_len (a_cons (d_var (pv 0)) a_nil)) (d_int (pe_glob rfl T.c_MOST_TIERS ⟨_, rfl⟩)))))))
  (s_one (s_ret (e_of (d_bl pe_bl))))
  s_nil)
  (s_one (s_ret (e_of (b_all rfl T.n_all (a_cons (d_of (e_comp (own := [("tier", 2)]) rfl sc_are_tiers.nd (i_seq (d_var (pv 0))) (blkOk_by (N := N_are_tiers) (sc := defScope s_are_tiers) (by decide +kernel)) (fun _ _ _ _ _ => (g_name sc_are_tiers.nd rfl (Or.inl rfl) (by decide))) (fun _ _ _ _ _ => ts_nil) (fun _ _ _ _ _ => (e_call G_is_tier (hr.mono (by decide)) gd T.m_is_tier T.F_is_tier.kp B_is_tier (ai_cons (ei_val (e_of (d_var (pv 2)))) (ai_cons (ei_val (e_of (d_var (pv 1)))) ai_nil)) (ss := []))))) a_nil))))))
theorem bi_law_things (T : Facts K mg) : L2.Binds K T.d_law_things ["_law_bag_here", "_law_width"] [] := T.F_law_things.bindsN fun _ _ _ _ _ _ us hl => match us, hl with | [_, _], _ => rfl
theorem ok_law_things (T : Facts K mg) : FnG P w K mg base CX0 5 T.a_law_things T.d_law_things ["_law_bag_here", "_law_width"] (spF ⟨K, mg⟩ 2 [0] f_law_things) := by
  have G_law_bent := ok_law_bent (P := P) (w := w) (base := base) T
  have B_law_bent := bi_law_bent T
  have G_law_deep_bent := ok_law_deep_bent (P := P) (w := w) (base := base) T
  have B_law_deep_bent := bi_law_deep_bent T
  have G_law_odd := ok_law_odd (P := P) (w := w) (base := base) T
  have B_law_odd := bi_law_odd T
  have G_law_size := ok_law_size (P := P) (w := w) (base := base) T
  have B_law_size := bi_law_size T
  have G_law_take := ok_law_take (P := P) (w := w) (base := base) T
  have B_law_take := bi_law_take T
  have G_law_vast := ok_law_vast (P := P) (w := w) (base := base) T
  have B_law_vast := bi_law_vast T
  exact ok_fn (ws := [2, 3, 4, 5, 6, 7, 8]) (ios := [0]) T.F_law_things sc_law_things (by decide) fun cdv A outer s H E hr gd =>
  (s_cons (s_set (i := 2) sc_law_things.nd rfl (Or.inl rfl) (by decide) (e_of (b_tuple T.n_tuple (a_cons (d_of (e_comp (own := [("_law_measure", 9)]) rfl sc_law_things.nd (i_range1 T.n_range (a_cons (d_var (pv 1)) a_nil)) (blkOk_by (N := N_law_things) (sc := defScope s_law_things) (by decide +kernel)) (fun _ _ _ _ _ => (g_name sc_law_things.nd rfl (Or.inl rfl) (by decide))) (fun _ _ _ _ _ => ts_nil) (fun _ _ _ _ _ => (e_call G_law_size (hr.mono (by decide)) gd T.m_law_size T.F_law_size.kp B_law_size (ai_late (pv 0) (ai_cons (ei_val (e_of (d_of (e_call G_law_take (hr.mono (by decide)) gd T.m_law_take T.F_law_take.kp B_law_take (ai_cons (ei_io (pv 0)) (ai_cons (ei_val (e_of (d_int pe_int))) ai_nil)) (ss := [some 0]))))) ai_nil)) (ss := [some 0]))))) a_nil))))
  (s_cons (s_set (i := 3) sc_law_things.nd rfl (Or.inl rfl) (by decide) (e_of (d_ix (d_lst (a_cons (d_of (e_call G_law_take (hr.mono (by decide)) gd T.m_law_take T.F_law_take.kp B_law_take (ai_cons (ei_io (pv 0)) (ai_cons (ei_val (e_of (d_int pe_int))) ai_nil)) (ss := [some 0]))) (a_cons (d_add (d_int pe_int) (d_of (e_call G_law_take (hr.mono (by decide)) gd T.m_law_take T.F_law_take.kp B_law_take (ai_cons (ei_io (pv 0)) (ai_cons (ei_val (e_of (d_int pe_int))) ai_nil)) (ss := [some 0])))) a_nil))) (b_int T.n_int (a_cons (d_eq (d_of (e_call G_law_take (hr.mono (by decide)) gd T.m_law_take T.F_law_take.kp B_law_take (ai_cons (ei_io (pv 0)) (ai_cons (ei_val (e_of (d_int pe_int))) ai_nil)) (ss := [some 0]))) (d_int pe_int) hr) a_nil)))))
  (s_cons (s_set (i := 4) sc_law_things.nd rfl (Or.inl rfl) (by decide) (e_of (d_of (e_mul (d_lst (a_cons (d_var (pv 2)) a_nil)) (d_var (pv 3))))))
  (s_cons (s_set (i := 5) sc_law_things.nd rfl (Or.inl rfl) (by decide) (e_of (d_tup (a_cons (d_of (e_call G_law_take (hr.mono (by decide)) gd T.m_law_take T.F_law_take.kp B_law_take (ai_cons (ei_io (pv 0)) (ai_cons (ei_val (e_of (d_var (pv 1)))) ai_nil)) (ss := [some 0]))) (a_cons (d_of (e_call G_law_size (hr.mono (by decide)) gd T.m_law_size T.F_law_size.kp B_law_size (ai_cons (ei_io (pv 0)) (ai_cons (ei_val (e_of (d_int pe_int))) ai_nil)) (ss := [some 0]))) a_nil)))))
  (s_cons (s_set (i := 6) sc_law_things.nd rfl (Or.inl rfl) (by decide) (e_lst ea_nil))
  (s_cons (s_for PassesOwn.never rfl (i_range1 T.n_range (a_cons (d_add (d_int pe_int) (d_of (e_call G_law_take (hr.mono (by decide)) gd T.m_law_take T.F_law_take.kp B_law_take (ai_cons (ei_io (pv 0)) (ai_cons (ei_val (e_of (d_int pe_int))) ai_nil)) (ss := [some 0])))) a_nil)) (g_name sc_law_things.nd rfl (Or.inl rfl) (by decide))
  (s_one (s_expr (m_append (pe_bm PySem.F.plainAttrs_list PySem.F.slot_list_append PySem.F.type_list_append mt_append (pv 6) (ea_cons (e_of (d_tup (a_cons (d_of (e_call G_law_take (hr.mono (by decide)) gd T.m_law_take T.F_law_take.kp B_law_take (ai_cons (ei_io (pv 0)) (ai_cons (ei_val (e_of (d_var (pv 1)))) ai_nil)) (ss := [some 0]))) (a_cons (d_of (e_call G_law_size (hr.mono (by decide)) gd T.m_law_size T.F_law_size.kp B_law_size (ai_late (pv 0) (ai_cons (ei_val (e_of (d_of (e_call G_law_take (hr.mono (by decide)) gd T.m_law_take T.F_law_take.kp B_law_take (ai_cons (ei_io (pv 0)) (ai_cons (ei_val (e_of (d_int pe_int))) ai_nil)) (ss := [some 0]))))) ai_nil)) (ss := [some 0]))) a_nil)))) ea_nil))))))
  (s_cons (s_frz (s_set (i := 8) sc_law_things.nd rfl (Or.inl rfl) (by decide) (e_of (d_of (e_lst (ea_cons (e_of (d_var (pv 2))) (ea_cons (e_of (d_var (pv 4))) (ea_cons (e_of (d_var (pv 5))) (ea_cons (e_of (d_var (pv 6))) (ea_cons (e_call G_law_odd (hr.mono (by decide)) gd T.m_law_odd T.F_law_odd.kp B_law_odd (ai_cons (ei_io (pv 0)) ai_nil) (ss := [some 0])) ea_nil))))))))))
  (s_cons (s_set (i := 8) sc_law_things.nd rfl (Or.inl rfl) (by decide) (e_of (d_of (e_add (d_var (pv 8)) (d_lst (a_cons (d_of (e_call G_law_bent (hr.mono (by decide)) gd T.m_law_bent T.F_law_bent.kp B_law_bent (ai_cons (ei_io (pv 0)) (ai_cons (ei_val (e_of (d_var (pv 2)))) ai_nil)) (ss := [some 0]))) (a_cons (d_of (e_call G_law_deep_bent (hr.mono (by decide)) gd T.m_law_deep_bent T.F_law_deep_bent.kp B_law_deep_bent (ai_cons (ei_io (pv 0)) (ai_cons (ei_val (e_of (d_var (pv 4)))) ai_nil)) (ss := [some 0]))) (a_cons (d_of (e_call G_law_bent (hr.mono (by decide)) gd T.m_law_bent T.F_law_bent.kp B_law_bent (ai_cons (ei_io (pv 0)) (ai_cons (ei_val (e_of (d_var (pv 5)))) ai_nil)) (ss := [some 0]))) (a_cons (d_of (e_call G_law_deep_bent (hr.mono (by decide)) gd T.m_law_deep_bent T.F_law_deep_bent.kp B_law_deep_bent (ai_cons (ei_io (pv 0)) (ai_cons (ei_val (e_of (d_var (pv 6)))) ai_nil)) (ss := [some 0]))) a_nil)))))))))
  (s_one (s_ret (e_add (d_var (pv 8)) (d_lst (a_cons (d_add (d_var (pv 6)) (d_var (pv 6))) (a_cons (d_lst a_nil) (a_cons (d_tup (a_cons (d_var (pv 1)) (a_cons (d_int pe_int) a_nil))) (a_cons (d_lst (a_cons (d_tup (a_cons (d_sub (d_var (pv 1)) (d_int pe_int)) (a_cons (d_int pe_int) a_nil))) a_nil)) (a_cons (d_of (e_call G_law_vast (hr.mono (by decide)) gd T.m_law_vast T.F_law_vast.kp B_law_vast (ai_cons (ei_io (pv 0)) ai_nil) (ss := [some 0]))) a_nil)))))))))))))))))
theorem bi_is_log (T : Facts K mg) : L2.Binds K T.d_is_log ["thing", "width"] [] := T.F_is_log.bindsN fun _ _ _ _ _ _ us hl => match us, hl with | [_, _], _ => rfl
theorem ok_is_log (T : Facts K mg) : FnG P w K mg base CX0 6 T.a_is_log T.d_is_log ["thing", "width"] (spF ⟨K, mg⟩ 2 [] f_is_log) := by
  have G_are_entries := ok_are_entries (P := P) (w := w) (base := base) T
  have B_are_entries := bi_are_entries T
  exact ok_fn (ws := []) (ios := []) T.F_is_log sc_is_log (by decide) fun cdv A outer s H E hr gd =>
  (s_one (s_ret (e_call G_are_entries (hr.mono (by decide)) gd T.m_are_entries T.F_are_entries.kp B_are_entries (ai_cons (ei_val (e_of (d_var (pv 0)))) (ai_cons (ei_val (e_of (d_var (pv 1)))) (ai_cons (ei_val (e_of (d_int (pe_glob rfl T.c_MOST_ENTRIES ⟨_, rfl⟩)))) ai_nil))) (ss := []))))
theorem ok_law (T : Facts K mg) : FnG P w K mg base CX0 7 T.a_law T.d_law ["_law_script"] (spF ⟨K, mg⟩ 1 [] f_law) := by
  have G_law_alike := ok_law_alike (P := P) (w := w) (base := base) T
  have B_law_alike := bi_law_alike T
  have G_law_are_tiers := ok_law_are_tiers (P := P) (w := w) (base := base) T
  have B_law_are_tiers := bi_law_are_tiers T
  have G_law_bag := ok_law_bag (P := P) (w := w) (base := base) T
  have B_law_bag := bi_law_bag T
  have G_law_is_entry := ok_law_is_entry (P := P) (w := w) (base := base) T
  have B_law_is_entry := bi_law_is_entry T
  have G_law_is_log := ok_law_is_log (P := P) (w := w) (base := base) T
  have B_law_is_log := bi_law_is_log T
  have G_law_is_tier := ok_law_is_tier (P := P) (w := w) (base := base) T
  have B_law_is_tier := bi_law_is_tier T
  have G_law_take := ok_law_take (P := P) (w := w) (base := base) T
  have B_law_take := bi_law_take T
  have G_law_things := ok_law_things (P := P) (w := w) (base := base) T
  have B_law_things := bi_law_things T
  have G_are_tiers := ok_are_tiers (P := P) (w := w) (base := base) T
  have B_are_tiers := bi_are_tiers T
  have G_is_entry := ok_is_entry (P := P) (w := w) (base := base) T
  have B_is_entry := bi_is_entry T
  have G_is_log := ok_is_log (P := P) (w := w) (base := base) T
  have B_is_log := bi_is_log T
  have G_is_tier := ok_is_tier (P := P) (w := w) (base := base) T
  have B_is_tier := bi_is_tier T
  exact ok_fn (ws := [1, 2, 3, 4, 5, 6, 7, 8, 9]) (ios := []) T.F_law sc_law (by decide) fun cdv A outer s H E hr gd =>
  (s_cons (s_set (i := 1) sc_law.nd rfl (Or.inl rfl) (by decide) (e_call G_law_bag (hr.mono (by decide)) gd T.m_law_bag T.F_law_bag.kp B_law_bag (ai_cons (ei_val (e_of (d_var (pv 0)))) ai_nil) (ss := [])))
  (s_cons (s_for PassesOwn.never rfl (i_range1 T.n_range (a_cons (d_int pe_int) a_nil)) (g_name sc_law.nd rfl (Or.inl rfl) (by decide))
  (s_cons (s_set (i := 3) sc_law.nd rfl (Or.inl rfl) (by decide) (e_of (d_add (d_int pe_int) (d_of (e_call G_law_take (hr.mono (by decide)) gd T.m_law_take T.F_law_take.kp B_law_take (ai_cons (ei_io (pv 1)) (ai_cons (ei_val (e_of (d_int pe_int))) ai_nil)) (ss := [some 1]))))))
  (s_cons (s_set (i := 4) sc_law.nd rfl (Or.inl rfl) (by decide) (e_of (d_of (e_call G_law_things (hr.mono (by decide)) gd T.m_law_things T.F_law_things.kp B_law_things (ai_cons (ei_io (pv 1)) (ai_cons (ei_val (e_of (d_var (pv 3)))) ai_nil)) (ss := [some 1])))))
  (s_cons (s_set (i := 5) sc_law.nd rfl (Or.inl rfl) (by decide) (e_of (d_ix (d_lst (a_cons (d_var (pv 3)) (a_cons (d_var (pv 3)) (a_cons (d_add (d_int pe_int) (d_of (e_call G_law_take (hr.mono (by decide)) gd T.m_law_take T.F_law_take.kp B_law_take (ai_cons (ei_io (pv 1)) (ai_cons (ei_val (e_of (d_int pe_int))) ai_nil)) (ss := [some 1])))) a_nil)))) (d_of (e_call G_law_take (hr.mono (by decide)) gd T.m_law_take T.F_law_take.kp B_law_take (ai_cons (ei_io (pv 1)) (ai_cons (ei_val (e_of (d_int pe_int))) ai_nil)) (ss := [some 1]))))))
  (s_cons (s_set (i := 6) sc_law.nd rfl (Or.inl rfl) (by decide) (e_of (b_reprX gd hr T.n_repr (a_cons (d_var (pv 4)) a_nil))))
  (s_cons (s_for PassesOwn.never rfl (i_seq (d_var (pv 4))) (g_name sc_law.nd rfl (Or.inl rfl) (by decide))
  (s_cons (s_set (i := 8) sc_law.nd rfl (Or.inl rfl) (by decide) (e_of (d_of (e_lst (ea_cons (e_call G_is_entry (hr.mono (by decide)) gd T.m_is_entry T.F_is_entry.kp B_is_entry (ai_cons (ei_val (e_of (d_var (pv 7)))) (ai_cons (ei_val (e_of (d_var (pv 5)))) ai_nil)) (ss := [])) (ea_cons (e_call G_is_log (hr.mono (by decide)) gd T.m_is_log T.F_is_log.kp B_is_log (ai_cons (ei_val (e_of (d_var (pv 7)))) (ai_cons (ei_val (e_of (d_var (pv 5)))) ai_nil)) (ss := [])) (ea_cons (e_call G_is_tier (hr.mono (by decide)) gd T.m_is_tier T.F_is_tier.kp B_is_tier (ai_cons (ei_val (e_of (d_var (pv 7)))) (ai_cons (ei_val (e_of (d_var (pv 5)))) ai_nil)) (ss := [])) (ea_cons (e_call G_are_tiers (hr.mono (by decide)) gd T.m_are_tiers T.F_are_tiers.kp B_are_tiers (ai_cons (ei_val (e_of (d_var (pv 7)))) (ai_cons (ei_val (e_of (d_var (pv 5)))) ai_nil)) (ss := [])) ea_nil))))))))
  (s_cons (s_set (i := 9) sc_law.nd rfl (Or.inl rfl) (by decide) (e_of (d_of (e_lst (ea_cons (e_call G_law_is_entry (hr.mono (by decide)) gd T.m_law_is_entry T.F_law_is_entry.kp B_law_is_entry (ai_cons (ei_val (e_of (d_var (pv 7)))) (ai_cons (ei_val (e_of (d_var (pv 5)))) ai_nil)) (ss := [])) (ea_cons (e_call G_law_is_log (hr.mono (by decide)) gd T.m_law_is_log T.F_law_is_log.kp B_law_is_log (ai_cons (ei_val (e_of (d_var (pv 7)))) (ai_cons (ei_val (e_of (d_var (pv 5)))) ai_nil)) (ss := [])) ea_nil))))))
  (s_cons (s_set (i := 9) sc_law.nd rfl (Or.inl rfl) (by decide) (e_of (d_of (e_add (d_var (pv 9)) (d_lst (a_cons (d_of (e_call G_law_is_tier (hr.mono (by decide)) gd T.m_law_is_tier T.F_law_is_tier.kp B_law_is_tier (ai_cons (ei_val (e_of (d_var (pv 7)))) (ai_cons (ei_val (e_of (d_var (pv 5)))) ai_nil)) (ss := []))) (a_cons (d_of (e_call G_law_are_tiers (hr.mono (by decide)) gd T.m_law_are_tiers T.F_law_are_tiers.kp B_law_are_tiers (ai_cons (ei_val (e_of (d_var (pv 7)))) (ai_cons (ei_val (e_of (d_var (pv 5)))) ai_nil)) (ss := []))) a_nil)))))))
  (s_one (s_if (t_not (t_val (d_of (e_call G_law_alike (hr.mono (by decide)) gd T.m_law_alike T.F_law_alike.kp B_law_alike (ai_cons (ei_val (e_of (d_var (pv 8)))) (ai_cons (ei_val (e_of (d_var (pv 9)))) ai_nil)) (ss := [])))))
  (s_one (s_ret (e_of (d_bl pe_bl))))
  s_nil))))))
  (s_one (s_if (t_ne (b_reprX gd hr T.n_repr (a_cons (d_var (pv 4)) a_nil)) (d_var (pv 6)) hr)
  (s_one (s_ret (e_of (d_bl pe_bl))))
  s_nil))))))))
  (s_one (s_ret (e_of (d_bl pe_bl))))))
end
theorem facts {P : Program} {w : World} {K : PySem.W.Frag} {h : Heap} {mg : Str → Option Value} {f : Addr} (X : K.In h) (G : h.Ns mainGlobals mg) (hfa : mg ("law" : Str) = some (.ref f)) (c : He.SaysD fa fn K) :
    ∃ fd : FuncData, (∀ (s : Shared) (v : Value), BindsTo s fd ⟨[v], []⟩ [("_law_script", v)]) ∧ ∀ base : Heap, K.In base → base.Ns mainGlobals mg → FnG P w K mg base CX0 7 f fd ["_law_script"] (spF ⟨K, mg⟩ 1 [] f_law) := by
  obtain ⟨d0, F0⟩ := c.def_ 0 (d := dd_is_integer) rfl
  have m0 := He.glo_ok X G (c.fact 0 (f := .glo "is_integer") rfl)
  obtain ⟨d1, F1⟩ := c.def_ 1 (d := dd_law_bag) rfl
  have m1 := He.glo_ok X G (c.fact 1 (f := .glo "_law_bag") rfl)
  obtain ⟨d2, F2⟩ := c.def_ 2 (d := dd_law_take) rfl
  have m2 := He.glo_ok X G (c.fact 2 (f := .glo "_law_take") rfl)
  obtain ⟨d3, F3⟩ := c.def_ 3 (d := dd_law_alike) rfl
  have m3 := He.glo_ok X G (c.fact 3 (f := .glo "_law_alike") rfl)
  obtain ⟨d4, F4⟩ := c.def_ 4 (d := dd_law_whole) rfl
  have m4 := He.glo_ok X G (c.fact 4 (f := .glo "_law_whole") rfl)
  obtain ⟨d5, F5⟩ := c.def_ 5 (d := dd_is_between) rfl
  have m5 := He.glo_ok X G (c.fact 5 (f := .glo "is_between") rfl)
  obtain ⟨d6, F6⟩ := c.def_ 6 (d := dd_law_size) rfl
  have m6 := He.glo_ok X G (c.fact 6 (f := .glo "_law_size") rfl)
  obtain ⟨d7, F7⟩ := c.def_ 7 (d := dd_law_vast) rfl
  have m7 := He.glo_ok X G (c.fact 7 (f := .glo "_law_vast") rfl)
  obtain ⟨d8, F8⟩ := c.def_ 8 (d := dd_law_is_entry) rfl
  have m8 := He.glo_ok X G (c.fact 8 (f := .glo "_law_is_entry") rfl)
  obtain ⟨d9, F9⟩ := c.def_ 9 (d := dd_law_is_tier) rfl
  have m9 := He.glo_ok X G (c.fact 9 (f := .glo "_law_is_tier") rfl)
  obtain ⟨d10, F10⟩ := c.def_ 10 (d := dd_law_odd) rfl
  have m10 := He.glo_ok X G (c.fact 10 (f := .glo "_law_odd") rfl)
  obtain ⟨d11, F11⟩ := c.def_ 11 (d := dd_is_size) rfl
  have m11 := He.glo_ok X G (c.fact 11 (f := .glo "is_size") rfl)
  obtain ⟨d12, F12⟩ := c.def_ 12 (d := dd_law_is_log) rfl
  have m12 := He.glo_ok X G (c.fact 12 (f := .glo "_law_is_log") rfl)
  obtain ⟨d13, F13⟩ := c.def_ 13 (d := dd_law_are_tiers) rfl
  have m13 := He.glo_ok X G (c.fact 13 (f := .glo "_law_are_tiers") rfl)
  obtain ⟨d14, F14⟩ := c.def_ 14 (d := dd_law_bent) rfl
  have m14 := He.glo_ok X G (c.fact 14 (f := .glo "_law_bent") rfl)
  obtain ⟨d15, F15⟩ := c.def_ 15 (d := dd_is_entry) rfl
  have m15 := He.glo_ok X G (c.fact 15 (f := .glo "is_entry") rfl)
  obtain ⟨d16, F16⟩ := c.def_ 16 (d := dd_is_tier) rfl
  have m16 := He.glo_ok X G (c.fact 16 (f := .glo "is_tier") rfl)
  obtain ⟨d17, F17⟩ := c.def_ 17 (d := dd_law_deep_bent) rfl
  have m17 := He.glo_ok X G (c.fact 17 (f := .glo "_law_deep_bent") rfl)
  obtain ⟨d18, F18⟩ := c.def_ 18 (d := dd_are_entries) rfl
  have m18 := He.glo_ok X G (c.fact 18 (f := .glo "are_entries") rfl)
  obtain ⟨d19, F19⟩ := c.def_ 19 (d := dd_are_tiers) rfl
  have m19 := He.glo_ok X G (c.fact 19 (f := .glo "are_tiers") rfl)
  obtain ⟨d20, F20⟩ := c.def_ 20 (d := dd_law_things) rfl
  have m20 := He.glo_ok X G (c.fact 20 (f := .glo "_law_things") rfl)
  obtain ⟨d21, F21⟩ := c.def_ 21 (d := dd_is_log) rfl
  have m21 := He.glo_ok X G (c.fact 21 (f := .glo "is_log") rfl)
  obtain ⟨d22, F22⟩ := c.def_ 22 (d := dd_law) rfl
  have m22 := He.glo_ok X G (c.fact 22 (f := .glo "law") rfl)
  have e23 := He.free_ok X G (c.fact 23 (f := .free "abs") rfl)
  have e24 := He.free_ok X G (c.fact 24 (f := .free "all") rfl)
  have e25 := He.free_ok X G (c.fact 25 (f := .free "bool") rfl)
  have e26 := He.free_ok X G (c.fact 26 (f := .free "int") rfl)
  have e27 := He.free_ok X G (c.fact 27 (f := .free "isinstance") rfl)
  have e28 := He.free_ok X G (c.fact 28 (f := .free "len") rfl)
  have e29 := He.free_ok X G (c.fact 29 (f := .free "list") rfl)
  have e30 := He.free_ok X G (c.fact 30 (f := .free "range") rfl)
  have e31 := He.free_ok X G (c.fact 31 (f := .free "repr") rfl)
  have e32 := He.free_ok X G (c.fact 32 (f := .free "tuple") rfl)
  obtain ⟨t33, e33⟩ := He.int_ok X G (c.fact 33 (f := .int "GREATEST" 1000000000000000000) rfl)
  obtain ⟨t34, e34⟩ := He.int_ok X G (c.fact 34 (f := .int "MOST_ENTRIES" 400) rfl)
  obtain ⟨t35, e35⟩ := He.int_ok X G (c.fact 35 (f := .int "MOST_TIERS" 8) rfl)
  let T : Facts K mg := ⟨_, d0, F0, m0, _, d1, F1, m1, _, d2, F2, m2, _, d3, F3, m3, _, d4, F4, m4, _, d5, F5, m5, _, d6, F6, m6, _, d7, F7, m7, _, d8, F8, m8, _, d9, F9, m9, _, d10, F10, m10, _, d11, F11, m11, _, d12, F12, m12, _, d13, F13, m13, _, d14, F14, m14, _, d15, F15, m15, _, d16, F16, m16, _, d17, F17, m17, _, d18, F18, m18, _, d19, F19, m19, _, d20, F20, m20, _, d21, F21, m21, _, d22, F22, m22, e23, e24, e25, e26, e27, e28, e29, e30, e31, e32, t33, e33, t34, e34, t35, e35⟩
  have e := hfa.symm.trans m22
  cases e
  have b := FunD.bindsA (ps := ["_law_script"]) F22 fun _ _ _ _ _ _ us hl => match us, hl with | [_], _ => rfl
  exact ⟨d22, fun s v => b s [v] rfl, fun base _ _ => ok_law T⟩
end DL.W
open PySem PySem.W PySem.Calls PyProof.Rows
theorem PySem.Challenge.cw_tierfall_k12_entries_logs_tiers_holds : PySem.Challenge.rw_tierfall_k12_entries_logs_tiers.Holds := by
  w_on; o_law
  refine HandSHeadRun.head_any (r := OpenLaw.row PySem.Challenge.rw_tierfall_k12_entries_logs_tiers) (q := view (OpenLaw.row PySem.Challenge.rw_tierfall_k12_entries_logs_tiers).prog [27]) (H := DL.WF.hk) (ob := DL.WF.ob) (M := 1920) (loose := DL.WF.loose) (d := HandSHeadRun.topDef (OpenLaw.row PySem.Challenge.rw_tierfall_k12_entries_logs_tiers).prog 27) (kwd := []) DL.WF.ob_eq
    (by kernel_rfl) (fun s => by kernel_rfl) DL.WF.run (by kernel_rfl) (by kernel_rfl) (by kernel_rfl) (by rfl) (by first | assumption | decide +kernel) (by decide +kernel) ⟨rfl, rfl, rfl, rfl, rfl, by decide +kernel⟩ ?hw ?hc
  case hw => w_witness2
  case hc =>
    refine DL.walk_G (l := PySem.Challenge.rw_tierfall_k12_entries_logs_tiers) (n := 63) (k := 7) (x := "_law_script") (CX := L2.CX0) rfl (by decide) (by kernel_rfl) ⟨rfl, by decide, by decide⟩ ?F (fun _ _ _ _ z => z)
    intro w mg fa h Y G hmg0
    obtain ⟨K, KX, c⟩ := Y
    have hmg : mg ("law" : PySem.Str) = some (.ref fa) := by
      have e : (HandSHeadRun.topDef (OpenLaw.row PySem.Challenge.rw_tierfall_k12_entries_logs_tiers).prog 27).name = ("law" : PySem.Str) := by kernel_rfl
      rw [← e]
      exact hmg0
    obtain ⟨fd, hb, hF⟩ := DL.W.facts (P := (PySem.Challenge.rw_tierfall_k12_entries_logs_tiers).prog) (w := w) KX G hmg c
    exact ⟨K, fd, _, KX, hb, fun H a ns hl hO hS => DL.law_sp hO hS (DL.W.law_pure ns hl), hF⟩
