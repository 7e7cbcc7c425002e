/- Part 8 of the texts behind the proof: TwO3. -/
import Derived.Test.YtnhgfmegaoibeaaDoorG07
set_option maxRecDepth 100000
namespace Go.Proofs.Tw
open Go Go.GX Go.Proofs

theorem ok74 : CallsOK Tryd.prog (assoc glT) 74 f74_ct :=
  callsOK_mk [] st_ok mk_ok in_ok AllOK.nil no_an Tryd.func74 (by kernel_rfl) (by kernel_rfl) f74_ct fun ⟨n, least, most, _⟩ _ Q h => (v74 n least most Q).mp (p74 h)
theorem ok75 : CallsOK Tryd.prog (assoc glT) 75 f75_ct :=
  callsOK_mk [] st_ok mk_ok in_ok AllOK.nil i5_an Tryd.func75 (by kernel_rfl) (by kernel_rfl) f75_ct fun ⟨l, n, _⟩ _ Q h => (v75 l n Q).mp (p75 h)
theorem ok32 : CallsOK Tryd.prog (assoc glT) 32 f32_ct :=
  callsOK_mk [] st_ok mk_ok in_ok AllOK.nil i5_an Tryd.func32 (by kernel_rfl) (by kernel_rfl) f32_ct fun ⟨a, b, _⟩ _ Q h => (v32 a b Q).mp (p32 h)
theorem ok27 : CallsOK Tryd.prog (assoc glT) 27 f27_ct :=
  callsOK_mk [] st_ok mk_ok in_ok AllOK.nil i5_an Tryd.func27 (by kernel_rfl) (by kernel_rfl) f27_ct fun ⟨a, b, _⟩ _ Q h => (v27 a b Q).mp (p27 h)
theorem ok36 : CallsOK Tryd.prog (assoc glT) 36 f36_ct :=
  callsOK_mk [] st_ok mk_ok in_ok AllOK.nil i5_an Tryd.func36 (by kernel_rfl) (by kernel_rfl) f36_ct fun ⟨a, b, _⟩ _ Q h => (v36 a b Q).mp (p36 h)
theorem ok24 : CallsOK Tryd.prog (assoc glT) 24 f24_ct :=
  callsOK_mk [] st_ok mk_ok in_ok (AllOK.cons ok32 (AllOK.cons ok27 AllOK.nil)) no_an Tryd.func24 (by kernel_rfl) (by kernel_rfl) f24_ct fun ⟨a, b, _⟩ _ Q h => (v24 a b Q).mp (p24 h)
theorem ok25 : CallsOK Tryd.prog (assoc glT) 25 f25_ct :=
  callsOK_mk [] st_ok mk_ok in_ok (AllOK.cons ok32 AllOK.nil) i5_an Tryd.func25 (by kernel_rfl) (by kernel_rfl) f25_ct fun ⟨a, b, _⟩ _ Q h => (v25 a b Q).mp (p25 h)
theorem ok19 : CallsOK Tryd.prog (assoc glT) 19 f19_ct :=
  callsOK_mk [] st_ok mk_ok in_ok AllOK.nil no_an Tryd.func19 (by kernel_rfl) (by kernel_rfl) f19_ct fun g _ Q h => (v19 g Q).mp (p19 h)
theorem ok20 : CallsOK Tryd.prog (assoc glT) 20 f20_ct :=
  callsOK_mk [] st_ok mk_ok in_ok AllOK.nil f20_an Tryd.func20 (by kernel_rfl) (by kernel_rfl) f20_ct fun fs _ Q h => (v20 fs Q).mp (p20 h)
theorem ok23 : CallsOK Tryd.prog (assoc glT) 23 f23_ct :=
  callsOK_mk [] st_ok mk_ok in_ok (AllOK.cons ok74 AllOK.nil) f23_an Tryd.func23 (by kernel_rfl) (by kernel_rfl) f23_ct fun ⟨g, fs, _⟩ _ Q h => (v23 g fs Q).mp (p23 h)
theorem ok76 : CallsOK Tryd.prog (assoc glT) 76 f76_ct :=
  callsOK_mk [] st_ok mk_ok in_ok (AllOK.cons ok75 AllOK.nil) f76_an Tryd.func76 (by kernel_rfl) (by kernel_rfl) f76_ct fun ⟨g, fs, m, wo, p, _⟩ _ Q h => (v76 g fs m wo p Q).mp (p76 h)
theorem ok26 : CallsOK Tryd.prog (assoc glT) 26 f26_ct :=
  callsOK_mk [] st_ok mk_ok in_ok (AllOK.cons ok75 (AllOK.cons ok76 AllOK.nil)) f26_an Tryd.func26 (by kernel_rfl) (by kernel_rfl) f26_ct fun ⟨g, fs, m, wo, _⟩ _ Q h => (v26 g fs m wo Q).mp (p26 h)
theorem ok17 : CallsOK Tryd.prog (assoc glT) 17 f17_ct :=
  callsOK_mk [] st_ok mk_ok in_ok AllOK.nil i5_an Tryd.func17 (by kernel_rfl) (by kernel_rfl) f17_ct fun ⟨g, fs, _⟩ _ Q h => (v17 g fs Q).mp (p17 h)
theorem ok64 : CallsOK Tryd.prog (assoc glT) 64 f64_ct :=
  callsOK_mk [] st_ok mk_ok in_ok AllOK.nil no_an Tryd.func64 (by kernel_rfl) (by kernel_rfl) f64_ct fun ⟨a, b, _⟩ _ Q h => (v64 a b Q).mp (p64 h)
theorem ok62 : CallsOK Tryd.prog (assoc glT) 62 f62_ct :=
  callsOK_mk [] st_ok mk_ok in_ok (AllOK.cons ok64 AllOK.nil) no_an Tryd.func62 (by kernel_rfl) (by kernel_rfl) f62_ct fun _ _ Q h => (v62  Q).mp (p62 h)
theorem ok63 : CallsOK Tryd.prog (assoc glT) 63 f63_ct :=
  callsOK_mk [100,102,104,106] st_ok mk_ok in_ok AllOK.nil no_an Tryd.func63 (by kernel_rfl) (by kernel_rfl) f63_ct fun _ _ Q h => (v63  Q).mp (p63 h)
theorem ok18 : CallsOK Tryd.prog (assoc glT) 18 f18_ct :=
  callsOK_mk [] st_ok mk_ok in_ok (AllOK.cons ok62 (AllOK.cons ok63 (AllOK.cons ok22 (AllOK.cons ok28 (AllOK.cons ok34 (AllOK.cons ok29 (AllOK.cons ok54 (AllOK.cons ok37 (AllOK.cons ok41 (AllOK.cons ok43 (AllOK.cons ok64 (AllOK.cons ok27 (AllOK.cons ok36 (AllOK.cons ok32 AllOK.nil)))))))))))))) no_an Tryd.func18 (by kernel_rfl) (by kernel_rfl) f18_ct fun _ _ Q h => (v18  Q).mp (p18 h)
theorem ok3 : CallsOK Tryd.prog (assoc glT) 3 f3_ct :=
  callsOK_mk [] st_ok mk_ok in_ok (AllOK.cons ok17 (AllOK.cons ok18 (AllOK.cons ok19 (AllOK.cons ok20 (AllOK.cons ok21 (AllOK.cons ok22 (AllOK.cons ok23 (AllOK.cons ok24 (AllOK.cons ok25 (AllOK.cons ok26 (AllOK.cons ok27 AllOK.nil))))))))))) f3_an Tryd.func3 (by kernel_rfl) (by kernel_rfl) f3_ct fun ⟨g, fs, _⟩ _ Q h => (v3 g fs Q).mp (p3 h)
end Go.Proofs.Tw
